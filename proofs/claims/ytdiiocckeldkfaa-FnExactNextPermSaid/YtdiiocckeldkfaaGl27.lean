/-
  A program logic over the walk's rules: the rules by which a goal is worked out, gathered. Conditions: none; each is a plain rewriting.
-/
import Derived.Test.YtdiiocckeldkfaaGl26
set_option linter.unusedSimpArgs false
set_option linter.unusedVariables false
namespace Go.Gl
open Go

section
variable {S : St} {h : Nat → Blk} {C : R → Prop} {k : Nat} {P : Program} {t t' : TypeId}

/-! ### lists told by a map -/

theorem mp_ap {α β : Type} {f : α → β} {l l' : List α} : List.map f l ++ List.map f l' = List.map f (l ++ l') := List.map_append.symm
theorem mp_int {l : List Int} {kd : IntKind} {x : Int} {r : List PV} : List.map (PV.int kd) l ++ (PV.int kd x :: r) = List.map (PV.int kd) (l ++ [x]) ++ r := by simp
theorem mp_str {l : List (List UInt8)} {x : List UInt8} {r : List PV} : List.map PV.str l ++ (PV.str x :: r) = List.map PV.str (l ++ [x]) ++ r := by simp
theorem mp_bool {l : List Bool} {x : Bool} {r : List PV} : List.map PV.bool l ++ (PV.bool x :: r) = List.map PV.bool (l ++ [x]) ++ r := by simp
theorem tk_map {α β : Type} {f : α → β} {l : List α} {n : Nat} : (l.map f).take n = (l.take n).map f := List.map_take.symm
theorem dr_map {α β : Type} {f : α → β} {l : List α} {n : Nat} : (l.map f).drop n = (l.drop n).map f := List.map_drop.symm

/-! ### the elements of slices -/

def u8P (b : UInt8) : PV := .int .u8 b.toNat
def elI (m : Bool) (l : List Int) : PV := .sl (.lent m) (l.map (.int .i64))
def elS (m : Bool) (l : List (List UInt8)) : PV := .sl (.lent m) (l.map .str)
theorem nr_u8 {b : UInt8} : noRo (u8P b) = true := _root_.id rfl
theorem nr_frI {l : List Int} : noRo (elI false l) = true := noRoL_map (fun _ => rfl) l
theorem nr_frS {l : List (List UInt8)} : noRo (elS false l) = true := noRoL_map (fun _ => rfl) l
theorem v_gtm {α : Type} [Inhabited α] {l : List α} {i : Nat} {f : α → PV} {K : PV → Prop} (hi : i < l.length) (hk : K (f (l.getD i default))) : gtO (Option.map f l[i]?) K := by
  rw [List.getElem?_eq_getElem hi]
  rw [List.getD_eq_getElem?_getD, List.getElem?_eq_getElem hi] at hk
  exact hk

/-! ### two values are the same -/


theorem ref_eq {i o l l' : Nat} (h : l = l') : AV.ref i o l = AV.ref i o l' := by rw [h]
theorem live_eq {m : Bool} {α : Type} {f : α → PV} {l l' : List α} (h : l = l') : Blk.live m (l.map f) = Blk.live m (l'.map f) := by rw [h]
theorem froz_eq {m : Bool} {α : Type} {f : α → PV} {l l' : List α} (h : l = l') : Blk.froz m (l.map f) = Blk.froz m (l'.map f) := by rw [h]
theorem int_eq {kd : IntKind} {a b : Int} (h : a = b) : AV.p (.int kd a) = AV.p (.int kd b) := by rw [h]
theorem bool_eq {a b : Bool} (h : a = b) : AV.p (.bool a) = AV.p (.bool b) := by rw [h]
theorem str_eq {a b : List UInt8} (h : a = b) : AV.p (.str a) = AV.p (.str b) := by rw [h]
theorem sl_eq {o : Fl} {α : Type} {f : α → PV} {l l' : List α} (h : l = l') : AV.p (.sl o (l.map f)) = AV.p (.sl o (l'.map f)) := by rw [h]
theorem mp_eq {α : Type} {f : α → PV} {l l' : List α} (h : l = l') : l.map f = l'.map f := by rw [h]
theorem lv_eq {m : Bool} {l l' : List PV} (h : l = l') : Blk.live m l = Blk.live m l' := by rw [h]

end
attribute [go_sem ↓] w_opb r_nil r_cons r_guard r_nx d_nil d_cons d_guard d_nx w_move w_assign w_pick w_bin
attribute [go_sem ↓] w_un w_call w_load w_addr w_index e_put o_tmp o_const e_entry w_len w_bs w_append
attribute [go_sem] g_fn q_all q_nil q_p q_ref q_ua q_un q_live q_froz cell_int cell_bool cell_str
attribute [go_sem] cell_lent cell_own gI_tt gI_ff gI_tf gI_ft gI_bool gJ_tt gJ_ff gJ_tf gJ_ft
attribute [go_sem] gJ_bool gd r_kv r_kw r_ka a_int a_bool a_str a_lent a_own a_agg
attribute [go_sem] a_any a_ref a_ptr a_aggA a_tup a_fn a_nilf a_pc p_bool p_true p_false b_add
attribute [go_sem] b_sub b_mul b_quo b_rem b_shl b_shr b_and b_eql b_neq b_lss b_leq b_gtr
attribute [go_sem] b_geq s_add s_eql s_neq l_eql l_neq u_not u_neg e_hws e_nx h_put h_nx
attribute [go_sem] h_hws n_put n_nx n_hws o_func c_int c_bool c_str c_nils r_app r_app0 r_appw
attribute [go_sem] r_puto cd_bool cd_true cd_false true_and and_true List.getElem?_toArray List.getElem?_cons_zero List.getElem?_cons_succ Option.bind_some List.map_cons List.map_nil
attribute [go_sem] List.nil_append List.append_nil List.cons_append imp imp1 impAll impWs impW impW1 h_entry n_entry argAVs
attribute [go_sem] List.toList_toArray Arg.av List.getD_cons_zero List.getD_cons_succ Bool.not_true Bool.not_false ne_eq not_false_eq_true not_true_eq_false false_implies true_implies implies_true
attribute [go_sem] eq_self Bool.true_eq_false Bool.false_eq_true cond_true cond_false Bool.and_true Bool.and_false Bool.true_and Bool.false_and Int.cast_ofNat_Int Int.toNat_natCast Int.toNat_natCast_add_one
attribute [go_sem] Nat.add_assoc List.take_succ_cons List.take_zero List.take_nil List.getElem?_map decide_true decide_false List.size_toArray List.length_cons List.length_nil hw_nil hw_cons
attribute [go_sem] setB_at num_eq gt_eq gtO_some m_load m_ld_pc m_ld_ptr m_live m_froz m_kx m_agg_pc m_addr_sl
attribute [go_sem] m_addr_ref m_kp m_index m_kb m_len_s m_len_sl m_len_ref m_pu_nil m_pu_p m_pu m_bs ok_int
attribute [go_sem] ok_bool ok_str ok_lent m_ct_sl m_ct_s m_ct_ref m_ct_live m_ct_froz m_ap_nil m_ap_ref m_ap_live
attribute [go_sem] take_all take_map_all f_nil f_cons f_fkc f_fl f_int f_bool f_str f_ro f_own f_live
attribute [go_sem] f_own0 f_0 f_1 Option.isSome_some Int.ofNat_lt true_or or_true List.drop_zero List.length_map Nat.zero_add Nat.add_zero Nat.le_refl
attribute [go_sem] AV.p.injEq PV.int.injEq PV.bool.injEq PV.str.injEq
attribute [go_sem] mp_int mp_str mp_bool gI_un gJ_un
end Go.Gl
