/-
 The laws' marks in slices of slices. Conditions: none.
-/
import Derived.Test.YtfjfobbniglaeaaLaw1
set_option linter.unusedSimpArgs false
set_option linter.unusedVariables false
set_option maxRecDepth 20000
set_option linter.unusedSectionVars false
namespace Go.Gl
open Go Go.Proofs
variable [Amb] [NoQ]
def sumN : List Nat → Nat
 | [] => 0
 | n :: ns => n + sumN ns
def mkLL : List Nat → Int → List (List Int)
 | [], _ => []
 | n :: ns, k => markL n k :: mkLL ns (k + n)
theorem mkLL_len : ∀ {ns : List Nat} {k : Int}, (mkLL ns k).length = ns.length
 | [], _ => rfl
 | _ :: ns, _ => by simp only [mkLL, List.length_cons, mkLL_len]
theorem mkLL_snoc : ∀ {ns : List Nat} {n : Nat} {k : Int}, mkLL (ns ++ [n]) k = mkLL ns k ++ [markL n (k + sumN ns)]
 | [], n, k => by simp [mkLL, sumN]
 | m :: ns, n, k => by
  simp only [List.cons_append, mkLL, mkLL_snoc, sumN]
  congr 4; push_cast; omega
theorem mkLL_getD : ∀ {ns : List Nat} {k : Int} {i : Nat}, (mkLL ns k).getD i [] = markL (ns.getD i 0) (k + sumN (ns.take i))
 | [], k, i => by simp [mkLL, markL]
 | n :: ns, k, 0 => by simp [mkLL, sumN]
 | n :: ns, k, i + 1 => by
  simp only [mkLL, List.getD_cons_succ, List.take_succ_cons, sumN, mkLL_getD]
  congr 1; push_cast; omega
theorem sumN_take : ∀ {ns : List Nat} {i : Nat}, sumN (ns.take (i + 1)) = sumN (ns.take i) + ns.getD i 0
 | [], i => by simp [sumN]
 | n :: ns, 0 => by simp [sumN]
 | n :: ns, i + 1 => by
  simp only [List.take_succ_cons, sumN, List.getD_cons_succ, sumN_take (ns := ns)]; omega
theorem sumN_le : ∀ {ns : List Nat} {i : Nat}, sumN (ns.take i) ≤ sumN ns
 | [], i => by simp [sumN]
 | n :: ns, 0 => by simp [sumN]
 | n :: ns, i + 1 => by
  simp only [List.take_succ_cons, sumN]
  have := sumN_le (ns := ns) (i := i); omega
theorem sumN_at {ns : List Nat} {i : Nat} : ns.getD i 0 ≤ sumN ns := by
 have h1 := sumN_take (ns := ns) (i := i)
 have h2 := sumN_le (ns := ns) (i := i + 1)
 omega
theorem len_getD {L : List (List Int)} {i : Nat} : (L.getD i []).length = (L.map List.length).getD i 0 := by
 rw [List.getD_eq_getElem?_getD, List.getD_eq_getElem?_getD, List.getElem?_map]
 cases L[i]? <;> rfl
theorem sumN_bound {n : Nat} : ∀ {L : List (List Int)}, (∀ l ∈ L, l.length ≤ n) → sumN (L.map List.length) ≤ L.length * n
 | [], _ => by simp [sumN]
 | l :: L, h => by
  have h1 := h l (by simp)
  have h2 := sumN_bound (L := L) (fun x hx => h x (by simp [hx]))
  simp only [List.map_cons, sumN, List.length_cons, Nat.succ_mul]; omega
theorem sumT_succ {L : List (List Int)} {i : Nat} : sumN ((L.take (i + 1)).map List.length) = sumN ((L.take i).map List.length) + (L.getD i []).length := by
 rw [List.map_take, List.map_take, sumN_take, len_getD]
theorem sumT_le {L : List (List Int)} {i : Nat} : sumN ((L.take i).map List.length) ≤ sumN (L.map List.length) := by
 rw [List.map_take]; exact sumN_le
theorem mkLL_step {L : List (List Int)} {i : Nat} {k : Int} (hi : i < L.length) :
  (mkLL ((L.take i).map List.length) k ++ L.drop i).set i (markL (L.getD i []).length (k + sumN ((L.take i).map List.length))) = mkLL ((L.take (i + 1)).map List.length) k ++ L.drop (i + 1) := by
 have hl : (mkLL ((L.take i).map List.length) k).length = i := by rw [mkLL_len]; simp; omega
 rw [List.set_append_right _ _ (by omega), hl, Nat.sub_self, dropL_at hi, List.set_cons_zero, take_getD (d := []) hi, List.map_append, List.map_cons, List.map_nil, mkLL_snoc, List.append_assoc]
 rfl
theorem mkLL_at {L : List (List Int)} {i : Nat} {k : Int} (hi : i < L.length) : (mkLL ((L.take i).map List.length) k ++ L.drop i).getD i [] = L.getD i [] := by
 have hl : (mkLL ((L.take i).map List.length) k).length = i := by rw [mkLL_len]; simp; omega
 rw [List.getD_eq_getElem?_getD, List.getD_eq_getElem?_getD, List.getElem?_append_right (by omega), hl, Nat.sub_self, List.getElem?_drop, Nat.add_zero]
def sgR : FuncId → List Bool := fun f => if f = 10 then [true] else []
theorem sgR_eq {f : FuncId} : sgR f = if f = 10 then [true] else [] := _root_.id rfl
theorem way_sgR : wayE sgR = false ∧ wayN sgR = false ∧ wayS sgR = false ∧ wayZ sgR = false ∧ wayM sgR = false := ⟨rfl, rfl, rfl, rfl, rfl⟩
attribute [go_sem] sgR_eq way_sgR
theorem laws_markIntSS_c (L : List (List Int)) (k : Int) (hL : L.length ≤ 1099511627776) (hk : 0 ≤ k) (hj : k + sumN (L.map List.length) ≤ 1099511627776) : CallT Try.prog false 16 [.mu false [.dl (List.map (List.map (PV.int .i64)) (L))], .pv (.int .i64 (k))] [some [.dl (List.map (List.map (PV.int .i64)) (mkLL (L.map List.length) k))], none] [(.int .i64 ((k + sumN (L.map List.length))))] := by
 refine fX sgR [4] Try.func16 ?_
 have cM1 := @laws_markIntS_c
 refine dE trivial ?_
 all_goals try (refine zlf ?_; repeat' first | exact zso | refine And.intro ?_ ?_ | (refine zim ?_; intro zb hc) | (refine zin ?_; intro zb) | intro j')
 all_goals try refine zbx ?_
 refine v_loopB (fun ms1 S1 => ∃ (i : Nat) (c : List (List Int)), S1.e 0 = .ref 0 0 (c).length ∧ S1.h 0 = dk (PV.int .i64) true (c) ∧ 0 < S1.n ∧ S1.e 1 = .p (.int .i64 ((k + sumN ((L.take i).map List.length)))) ∧ S1.e 5 = .p (.int .i64 (i)) ∧ (i ≤ L.length) ∧ (c = mkLL ((L.take i).map List.length) k ++ L.drop i) ∧ (c.length = L.length) ∧ ms1 = L.length - i) ((fun (i : Nat) (c : List (List Int)) => L.length - i) (0) (L)) ?_ ⟨0, L, dI trivial ?_⟩
 all_goals try (refine zlf ?_; repeat' first | exact zso | refine And.intro ?_ ?_ | (refine zim ?_; intro zb hc) | (refine zin ?_; intro zb) | intro j')
 all_goals try refine zbx ?_
 rintro ms1 S1 ⟨i, c, h1_0, b1_0, l1_0, h1_1, h1_5, c1_0, c1_1, c1_2, hm1⟩
 have n0 := znds (x := 0) (n := S1.n)
 have fL1 := (And.intro h1_0 (And.intro b1_0 (And.intro h1_1 (And.intro h1_5 n0))))
 have e1 := sumT_succ (L := L) (i := i)
 have e2 := sumT_le (L := L) (i := i)
 have e3 := sumT_le (L := L) (i := i + 1)
 refine dE fL1 ?_
 all_goals try (refine zlf ?_; repeat' first | exact zso | refine And.intro ?_ ?_ | (refine zim ?_; intro zb hc) | (refine zin ?_; intro zb) | intro j')
 all_goals try refine zbx ?_
 all_goals try have e4 := mkLL_at (L := L) (i := i) (k := k) (by omega)
 all_goals try rw [← c1_1] at e4
 all_goals try rw [e4]
 all_goals try exact zaut
 all_goals try (simp [sumN]; done)
 ·focus
   refine q_lp_n ((fun (i : Nat) (c : List (List Int)) => L.length - i) (i+1) (c.set i (markL (L.getD i []).length (k + sumN ((L.take i).map List.length))))) (dC fL1 ?_) ⟨i+1, c.set i (markL (L.getD i []).length (k + sumN ((L.take i).map List.length))), dC fL1 ?_⟩
   all_goals try (refine zlf ?_; repeat' first | exact zso | refine And.intro ?_ ?_ | (refine zim ?_; intro zb hc) | (refine zin ?_; intro zb) | intro j')
   all_goals try refine zbx ?_
  all_goals first | exact dkU_eq (by omega) (by rw [e4, markL_length]) | (rw [c1_1, mkLL_step (by omega)])
 ·rw [c1_1, List.take_of_length_le (by omega), List.drop_of_length_le (by omega), List.append_nil]
 ·rw [List.take_of_length_le (by omega)]
theorem laws_heldIntSS_c {e0 m0 : Bool} (ns : List Nat) (k : Int) (hn : ns.length ≤ 1099511627776) (hk : 0 ≤ k) (hj : k + sumN ns ≤ 1099511627776) : Fun Try.prog 17 [(.sl (.lent m0) (List.map (elI e0) (mkLL ns k))), (.int .i64 (k))] [(.int .i64 ((k + sumN ns)))] := by
 refine fO sg0 [4] Try.func17 ?_
 have cE1 := @laws_heldIntS_c
 refine dE trivial ?_
 all_goals try (refine zlf ?_; repeat' first | exact zso | refine And.intro ?_ ?_ | (refine zim ?_; intro zb hc) | (refine zin ?_; intro zb) | intro j')
 all_goals try refine zbx ?_
 refine v_loopB (fun ms1 S1 => ∃ (i : Nat), S1.e 0 = .p (.sl (.lent m0) (List.map (elI e0) (mkLL ns k))) ∧ S1.e 1 = .p (.int .i64 ((k + sumN (ns.take i)))) ∧ S1.e 5 = .p (.int .i64 (i)) ∧ (i ≤ ns.length) ∧ ms1 = ns.length - i) ((fun (i : Nat) => ns.length - i) (0)) ?_ ⟨0, dIa trivial ?_⟩
 all_goals try (refine zlf ?_; repeat' first | exact zso | refine And.intro ?_ ?_ | (refine zim ?_; intro zb hc) | (refine zin ?_; intro zb) | intro j')
 all_goals try refine zbx ?_
 rintro ms1 S1 ⟨i, h1_0, h1_1, h1_5, c1_0, hm1⟩
 have fL1 := (And.intro h1_0 (And.intro h1_1 h1_5))
 have e1 := sumN_take (ns := ns) (i := i)
 have e2 := sumN_le (ns := ns) (i := i)
 have e3 := sumN_le (ns := ns) (i := i + 1)
 have e4 := sumN_at (ns := ns) (i := i)
 refine dEa (And.intro fL1 (And.intro @mkLL_getD @mkLL_len)) ?_
 all_goals try (refine zlf ?_; repeat' first | exact zso | refine And.intro ?_ ?_ | (refine zim ?_; intro zb hc) | (refine zin ?_; intro zb) | intro j')
 all_goals try refine zbx ?_
 all_goals try (simp [sumN]; done)
 ·focus
   refine q_lp_n ((fun (i : Nat) => ns.length - i) (i+1)) (dC fL1 ?_) ⟨i+1, dC fL1 ?_⟩
   all_goals try (refine zlf ?_; repeat' first | exact zso | refine And.intro ?_ ?_ | (refine zim ?_; intro zb hc) | (refine zin ?_; intro zb) | intro j')
   all_goals try refine zbx ?_
 ·rw [List.take_of_length_le (by omega)]
theorem mkLL_take {L : List (List Int)} {k : Int} : List.take L.length (mkLL (L.map List.length) k) = mkLL (L.map List.length) k := by
 rw [List.take_of_length_le]; rw [mkLL_len, List.length_map]; exact Nat.le_refl _
attribute [go_sem] mkLL_take mkLL_len
end Go.Gl
