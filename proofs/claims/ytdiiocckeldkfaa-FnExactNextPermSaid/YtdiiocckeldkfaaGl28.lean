/-
  A program logic over the walk's rules: rules by which a goal is worked out, third part: slicing, stores, structs, conversions, function values, memory that is lent. Conditions: none; each is a plain rewriting.
-/
import Derived.Test.YtdiiocckeldkfaaGl27
set_option linter.unusedSimpArgs false
set_option linter.unusedVariables false
namespace Go.Gl
open Go

section
variable {P : Program} {sg : FuncId → List Bool} {h : Nat → Blk} {k : Nat} {ρ : Operand → AV} {C : R → Prop} {t t' : TypeId} {x y : Operand} {A : AV → Prop}

/-! ### elements -/

theorem u8P_eq {b : UInt8} : u8P b = .int .u8 b.toNat := _root_.id rfl
theorem elI_eq {m : Bool} {l : List Int} : elI m l = .sl (.lent m) (l.map (.int .i64)) := _root_.id rfl
theorem elS_eq {m : Bool} {l : List (List UInt8)} : elS m l = .sl (.lent m) (l.map .str) := _root_.id rfl
theorem mp_u8 {l : List UInt8} {b : UInt8} {r : List PV} : List.map u8P l ++ (PV.int .u8 (b.toNat : Int) :: r) = List.map u8P (l ++ [b]) ++ r := by simp [u8P]
theorem mp_elI {m : Bool} {l : List (List Int)} {x : List Int} {r : List PV} : List.map (elI m) l ++ (PV.sl (.lent m) (List.map (PV.int .i64) x) :: r) = List.map (elI m) (l ++ [x]) ++ r := by simp [elI]
theorem mp_elS {m : Bool} {l : List (List (List UInt8))} {x : List (List UInt8)} {r : List PV} : List.map (elS m) l ++ (PV.sl (.lent m) (List.map PV.str x) :: r) = List.map (elS m) (l ++ [x]) ++ r := by simp [elS]
theorem mp_rep_int {n : Nat} {kd : IntKind} {z : Int} : List.replicate n (PV.int kd z) = List.map (PV.int kd) (List.replicate n z) := by simp
theorem mp_rep_bool {n : Nat} {z : Bool} : List.replicate n (PV.bool z) = List.map PV.bool (List.replicate n z) := by simp
theorem mp_rep_str {n : Nat} {z : List UInt8} : List.replicate n (PV.str z) = List.map PV.str (List.replicate n z) := by simp
theorem mp_rep_fr {n : Nat} : List.replicate n (PV.sl (.lent false) []) = List.map (elI false) (List.replicate n []) := by simp [elI]
theorem mp_set_int {l : List Int} {kd : IntKind} {i : Nat} {z : Int} : (List.map (PV.int kd) l).set i (PV.int kd z) = List.map (PV.int kd) (l.set i z) := List.map_set.symm
theorem mp_set_bool {l : List Bool} {i : Nat} {z : Bool} : (List.map PV.bool l).set i (PV.bool z) = List.map PV.bool (l.set i z) := List.map_set.symm
theorem mp_set_str {l : List (List UInt8)} {i : Nat} {z : List UInt8} : (List.map PV.str l).set i (PV.str z) = List.map PV.str (l.set i z) := List.map_set.symm
theorem mp_set_el {m : Bool} {l : List (List Int)} {i : Nat} {z : List Int} : (List.map (elI m) l).set i (PV.sl (.lent m) (List.map (PV.int .i64) z)) = List.map (elI m) (l.set i z) := by
  rw [← elI_eq, List.map_set]
theorem u8_app {l : List UInt8} {n : Int} (h0 : 0 ≤ n) (h1 : n < 256) : List.map u8P l ++ [PV.int .u8 n] = List.map u8P (l ++ [UInt8.ofNat n.toNat]) := by
  rw [List.map_append]; congr 1
  simp only [List.map_cons, List.map_nil, u8P, UInt8.toNat_ofNat']
  congr 2; omega

/-! ### slices of slices -/

def bdV (v : Option AV) (d : Int) (K : Int → Prop) : Prop :=
  match v with
  | none => K d
  | some (.p (.int _ i)) => K i
  | _ => False
theorem bnd_eq {x : Option Operand} {d : Nat} {K : Int → Prop} : bnd ρ x d K = bdV (x.map ρ) d K := by
  cases x with
  | none => rfl
  | some o =>
    simp only [bnd, bdV, Option.map_some]
    cases ρ o <;> try rfl
    rename_i v; cases v <;> rfl
def BL (lo : Option AV) (F : Int → Int → Prop) (h : Int) : Prop := bdV lo 0 (F h)
def SLs (s : List UInt8) (C : R → Prop) (h l : Int) : Prop := 0 ≤ l ∧ l ≤ h ∧ h ≤ s.length ∧ C ⟨.p (.str ((s.take h.toNat).drop l.toNat)), [], []⟩
def SLl (o : Fl) (xs : List PV) (C : R → Prop) (h l : Int) : Prop := 0 ≤ l ∧ l ≤ h ∧ h ≤ xs.length ∧ C ⟨.p (.sl o ((xs.take h.toNat).drop l.toNat)), [], []⟩
def SLr (id off len : Nat) (C : R → Prop) (h l : Int) : Prop := 0 ≤ l ∧ l ≤ h ∧ h ≤ len ∧ C ⟨.ref id (off + l.toNat) (h.toNat - l.toNat), [], []⟩
def SL3 (k : Nat) (C : R → Prop) (m h l : Int) : Prop := l = 0 ∧ h = 0 ∧ m = 0 ∧ C ⟨.ref k 0 0, [(k, .live false [])], []⟩
def BL3 (hi lo : Option AV) (F : Int → Int → Int → Prop) (m : Int) : Prop := bdV hi 0 (BL lo (F m))
theorem w_slice {lo hi mx : Option Operand} : opB P sg ρ h k (.slice t x lo hi mx) C = sliceW P t (ρ x) lo hi mx k ρ C := _root_.id rfl
theorem s_str {s : List UInt8} {lo hi : Option Operand} : sliceW P t (.p (.str s)) lo hi none k ρ C = (strT P t = true ∧ bdV (hi.map ρ) s.length (BL (lo.map ρ) (SLs s C))) := by
  simp only [sliceW, bnd_eq, true_and]; rfl
theorem s_sl {o : Fl} {xs : List PV} {lo hi : Option Operand} : sliceW P t (.p (.sl o xs)) lo hi none k ρ C = ((slT P t).isSome = true ∧ bdV (hi.map ρ) xs.length (BL (lo.map ρ) (SLl o xs C))) := by
  simp only [sliceW, bnd_eq]; rfl
theorem s_ref {id off len : Nat} {lo hi : Option Operand} : sliceW P t (.ref id off len) lo hi none k ρ C = ((slT P t).isSome = true ∧ bdV (hi.map ρ) len (BL (lo.map ρ) (SLr id off len C))) := by
  simp only [sliceW, bnd_eq]; rfl
theorem s_sl3 {o : Fl} {xs : List PV} {lo : Option Operand} {hi mx : Operand} : sliceW P t (.p (.sl o xs)) lo (some hi) (some mx) k ρ C = ((slT P t).isSome = true ∧ bdV (some (ρ mx)) 0 (BL3 (some (ρ hi)) (lo.map ρ) (SL3 k C))) := by
  simp only [sliceW, bnd_eq, ne_eq, reduceCtorEq, not_false_eq_true, true_and]; rfl
theorem s_ref3 {id off len : Nat} {lo : Option Operand} {hi mx : Operand} : sliceW P t (.ref id off len) lo (some hi) (some mx) k ρ C = ((slT P t).isSome = true ∧ bdV (some (ρ mx)) 0 (BL3 (some (ρ hi)) (lo.map ρ) (SL3 k C))) := by
  simp only [sliceW, bnd_eq, ne_eq, reduceCtorEq, not_false_eq_true, true_and]; rfl
theorem bd_none {d : Int} {K : Int → Prop} : bdV none d K = K d := _root_.id rfl
theorem bd_some {d : Int} {kd : IntKind} {i : Int} {K : Int → Prop} : bdV (some (.p (.int kd i))) d K = K i := _root_.id rfl
theorem bl_eq {lo : Option AV} {F : Int → Int → Prop} {i : Int} : BL lo F i = bdV lo 0 (F i) := _root_.id rfl
theorem bl3_eq {hi lo : Option AV} {F : Int → Int → Int → Prop} {i : Int} : BL3 hi lo F i = bdV hi 0 (BL lo (F i)) := _root_.id rfl
theorem sls_eq {s : List UInt8} {i j : Int} : SLs s C i j = (0 ≤ j ∧ j ≤ i ∧ i ≤ s.length ∧ C ⟨.p (.str ((s.take i.toNat).drop j.toNat)), [], []⟩) := _root_.id rfl
theorem sll_eq {o : Fl} {xs : List PV} {i j : Int} : SLl o xs C i j = (0 ≤ j ∧ j ≤ i ∧ i ≤ xs.length ∧ C ⟨.p (.sl o ((xs.take i.toNat).drop j.toNat)), [], []⟩) := _root_.id rfl
theorem slr_eq {id off len : Nat} {i j : Int} : SLr id off len C i j = (0 ≤ j ∧ j ≤ i ∧ i ≤ len ∧ C ⟨.ref id (off + j.toNat) (i.toNat - j.toNat), [], []⟩) := _root_.id rfl
theorem sl3_eq {m i j : Int} : SL3 k C m i j = (j = 0 ∧ i = 0 ∧ m = 0 ∧ C ⟨.ref k 0 0, [(k, .live false [])], []⟩) := _root_.id rfl

/-! ### stores -/

def stG (s : Option (Nat × Bool)) (h : Nat → Blk) (a v : AV) (C : R → Prop) : Prop :=
  match s with
  | some (n, _) => (match a with
    | .ptr id off => match h id with
      | .live m c => cellsW h v fun xs ws rd => xs.length = n ∧ off + n ≤ c.length ∧ id ∉ rd ∧
          C ⟨.p .any, ws ++ [(id, .live m (c.take off ++ xs ++ c.drop (off + n)))], id :: rd⟩
      | _ => False
    | _ => False)
  | none => False
def st1B (b : Blk) (id off : Nat) (v : PV) (C : R → Prop) : Prop :=
  match b with
  | .live m c => v.cellOk = true ∧ off < c.length ∧ C ⟨.p .any, [(id, .live m (c.set off v))], [id]⟩
  | _ => False
/-- A store of a slice: the slice is shared from here on. -/
def stRB (b b' : Blk) (id off id' off' len : Nat) (C : R → Prop) : Prop :=
  match b, b' with
  | .live m c, .live m' c' => off' + len ≤ c'.length ∧ off < c.length ∧ id ≠ id' ∧
      C ⟨.p .any, [(id', .froz m' c'), (id, .live m (c.set off (.sl (.lent m') ((c'.drop off').take len))))], [id, id']⟩
  | .live m c, .froz m' c' => off' + len ≤ c'.length ∧ off < c.length ∧ id ≠ id' ∧
      C ⟨.p .any, [(id, .live m (c.set off (.sl (.lent m') ((c'.drop off').take len))))], [id, id']⟩
  | _, _ => False
theorem w_store' {a v : AV} : storeW P t h a v C = stG (szT P t) h a v C := _root_.id rfl
theorem set_cut {c : List PV} {off : Nat} {v : PV} (ho : off < c.length) : c.take off ++ [v] ++ c.drop (off + 1) = c.set off v := by
  rw [List.set_eq_take_append_cons_drop, if_pos ho, List.append_assoc]; rfl
theorem st_1 {id off : Nat} {v : PV} (hv : ∀ xs, v ≠ .agg xs) : stG (some (1, false)) h (.ptr id off) (.p v) C = st1B (h id) id off v.cell C := by
  simp only [stG, st1B]
  cases hb : h id with
  | live m c =>
    cases v with
    | agg xs => exact absurd rfl (hv xs)
    | _ =>
      simp only [cellsW, pub, List.length_cons, List.length_nil, Nat.zero_add, List.not_mem_nil, not_false_eq_true, true_and, List.nil_append]
      apply propext; constructor
      · rintro ⟨h1, ho, hc⟩; rw [set_cut (by omega)] at hc; exact ⟨h1, by omega, hc⟩
      · rintro ⟨h1, ho, hc⟩; rw [set_cut (by omega)]; exact ⟨h1, by omega, hc⟩
  | froz m c => rfl
  | dead => rfl
theorem st_int {id off : Nat} {kd : IntKind} {n : Int} : stG (some (1, false)) h (.ptr id off) (.p (.int kd n)) C = st1B (h id) id off (.int kd n) C := st_1 (by simp)
theorem st_bool {id off : Nat} {b : Bool} : stG (some (1, false)) h (.ptr id off) (.p (.bool b)) C = st1B (h id) id off (.bool b) C := st_1 (by simp)
theorem st_str {id off : Nat} {s : List UInt8} : stG (some (1, false)) h (.ptr id off) (.p (.str s)) C = st1B (h id) id off (.str s) C := st_1 (by simp)
theorem st_lent {m : Bool} {id off : Nat} {s : List PV} : stG (some (1, false)) h (.ptr id off) (.p (.sl (.lent m) s)) C = st1B (h id) id off (.sl (.lent m) s) C := by rw [st_1 (by simp), cell_lent]
theorem st_own {id off : Nat} {s : List PV} : stG (some (1, false)) h (.ptr id off) (.p (.sl .own s)) C = st1B (h id) id off (.sl (.lent false) []) C := st_1 (by simp)
theorem st_ref {id off id' off' len : Nat} : stG (some (1, false)) h (.ptr id off) (.ref id' off' len) C = stRB (h id) (h id') id off id' off' len C := by
  simp only [stG, stRB]
  cases hb : h id with
  | live m c =>
    simp only [cellsW, pub]
    cases hb' : h id' with
    | live m' c' =>
      simp only [List.length_cons, List.length_nil, Nat.zero_add, List.mem_singleton, true_and, List.cons_append, List.nil_append]
      apply propext; constructor
      · rintro ⟨h1, ho, hi, hc⟩; rw [set_cut (by omega)] at hc; exact ⟨h1, by omega, hi, hc⟩
      · rintro ⟨h1, ho, hi, hc⟩; rw [set_cut (by omega)]; exact ⟨h1, by omega, hi, hc⟩
    | froz m' c' =>
      simp only [List.length_cons, List.length_nil, Nat.zero_add, List.mem_singleton, true_and, List.cons_append, List.nil_append]
      apply propext; constructor
      · rintro ⟨h1, ho, hi, hc⟩; rw [set_cut (by omega)] at hc; exact ⟨h1, by omega, hi, hc⟩
      · rintro ⟨h1, ho, hi, hc⟩; rw [set_cut (by omega)]; exact ⟨h1, by omega, hi, hc⟩
    | dead => rfl
  | froz m c => cases h id' <;> rfl
  | dead => cases h id' <;> rfl
theorem st1_live {m : Bool} {c : List PV} {id off : Nat} {v : PV} : st1B (.live m c) id off v C = (v.cellOk = true ∧ off < c.length ∧ C ⟨.p .any, [(id, .live m (c.set off v))], [id]⟩) := _root_.id rfl
theorem str_live {m m' : Bool} {c c' : List PV} {id off id' off' len : Nat} : stRB (.live m c) (.live m' c') id off id' off' len C = (off' + len ≤ c'.length ∧ off < c.length ∧ id ≠ id' ∧
      C ⟨.p .any, [(id', .froz m' c'), (id, .live m (c.set off (.sl (.lent m') ((c'.drop off').take len))))], [id, id']⟩) := rfl
theorem str_froz {m m' : Bool} {c c' : List PV} {id off id' off' len : Nat} : stRB (.live m c) (.froz m' c') id off id' off' len C = (off' + len ≤ c'.length ∧ off < c.length ∧ id ≠ id' ∧
      C ⟨.p .any, [(id, .live m (c.set off (.sl (.lent m') ((c'.drop off').take len))))], [id, id']⟩) := rfl
theorem lent_f : Fl.lent false = .fr := _root_.id rfl
theorem lent_t : Fl.lent true = .ro := _root_.id rfl

/-! ### slices put into slices -/

def puB (b : Blk) (id off len : Nat) (K : PV → List (Nat × Blk) → List Nat → Prop) : Prop :=
  match b with
  | .live m c => off + len ≤ c.length ∧ K (.sl (.lent m) ((c.drop off).take len)) [(id, .froz m c)] [id]
  | .froz m c => off + len ≤ c.length ∧ K (.sl (.lent m) ((c.drop off).take len)) [] [id]
  | .dead => False
/-- What is behind: the same slice twice is twice frozen. -/
def PUR (h : Nat → Blk) (vs : List AV) (F : List PV → List (Nat × Blk) → List Nat → Prop) (x : PV) (ws : List (Nat × Blk)) (rd : List Nat) : Prop :=
  pubs h vs fun xs ws' rd' => F (x :: xs) (ws ++ ws') (rd ++ rd')
def PUF (F : List PV → List (Nat × Blk) → List Nat → Prop) (x : PV) (ws : List (Nat × Blk)) (rd : List Nat) (xs : List PV) (ws' : List (Nat × Blk)) (rd' : List Nat) : Prop := F (x :: xs) (ws ++ ws') (rd ++ rd')
theorem pu_ref {id off len : Nat} {vs : List AV} {F : List PV → List (Nat × Blk) → List Nat → Prop} : pubs h (.ref id off len :: vs) F = puB (h id) id off len (PUR h vs F) := by
  simp only [pubs, pub, puB, PUR]; cases h id <;> rfl
theorem pu_live {m : Bool} {c : List PV} {id off len : Nat} {K : PV → List (Nat × Blk) → List Nat → Prop} : puB (.live m c) id off len K = (off + len ≤ c.length ∧ K (.sl (.lent m) ((c.drop off).take len)) [(id, .froz m c)] [id]) := _root_.id rfl
theorem pu_froz {m : Bool} {c : List PV} {id off len : Nat} {K : PV → List (Nat × Blk) → List Nat → Prop} : puB (.froz m c) id off len K = (off + len ≤ c.length ∧ K (.sl (.lent m) ((c.drop off).take len)) [] [id]) := _root_.id rfl
theorem pu_r {vs : List AV} {F : List PV → List (Nat × Blk) → List Nat → Prop} {v : PV} {ws : List (Nat × Blk)} {rd : List Nat} : PUR h vs F v ws rd = pubs h vs (PUF F v ws rd) := _root_.id rfl
theorem pu_f {F : List PV → List (Nat × Blk) → List Nat → Prop} {v : PV} {xs : List PV} {ws ws' : List (Nat × Blk)} {rd rd' : List Nat} : PUF F v ws rd xs ws' rd' = F (v :: xs) (ws ++ ws') (rd ++ rd') := _root_.id rfl

/-! ### new memory -/

def mkG (s : Option (Nat × PV)) (a : Int) (k : Nat) (C : R → Prop) : Prop :=
  match s with
  | some (_, z) => z.cellOk = true ∧ C ⟨.ref k 0 a.toNat, [(k, .live false (List.replicate a.toNat z))], []⟩
  | none => False
theorem mk_eq {kd kd' : IntKind} {a b : Int} : makeW P t k (.p (.int kd a)) (.p (.int kd' b)) C = (0 ≤ a ∧ a ≤ b ∧ b ≤ 1099511627776 ∧ mkG (slT P t) a k C) := _root_.id rfl
theorem mk_some {a : Int} {n : Nat} {z : PV} : mkG (some (n, z)) a k C = (z.cellOk = true ∧ C ⟨.ref k 0 a.toNat, [(k, .live false (List.replicate a.toNat z))], []⟩) := _root_.id rfl
def alG (s : Option (List PV)) (k : Nat) (C : R → Prop) : Prop :=
  match s with
  | some xs => xs ≠ [] ∧ xs.length ≤ 1000000 ∧ xs.all PV.cellOk = true ∧ C ⟨.ptr k 0, [(k, .live false xs)], []⟩
  | none => False
theorem al_eq : allocW P t k C = alG (zeroT P t) k C := _root_.id rfl
theorem al_some {xs : List PV} : alG (some xs) k C = (xs ≠ [] ∧ xs.length ≤ 1000000 ∧ xs.all PV.cellOk = true ∧ C ⟨.ptr k 0, [(k, .live false xs)], []⟩) := _root_.id rfl

/-! ### structs, tuples -/

def nthO (o : Option AV) (A : AV → Prop) : Prop := match o with | some x => A x | none => False
theorem nth_eq {xs : List AV} {i : Nat} : AV.nth xs i A = nthO xs[i]? A := _root_.id rfl
theorem nth_some {v : AV} : nthO (some v) A = A v := _root_.id rfl
def exG (v : AV) (i : Nat) (A : AV → Prop) : Prop := match v with | .tup xs => AV.nth xs i A | _ => False
theorem w_extract {i : Nat} : opB P sg ρ h k (.extract x i) C = exG (ρ x) i (KA k C) := _root_.id rfl
theorem ex_tup {xs : List AV} {i : Nat} : exG (.tup xs) i A = nthO xs[i]? A := _root_.id rfl
def fdG (s : Option (Nat × Nat × Bool)) (v : AV) (A : AV → Prop) : Prop :=
  match s with
  | some (off, 1, false) => (match v with
    | .p (.agg xs) => gt xs off fun x => A (.p x)
    | .agg xs => AV.nth xs off A
    | _ => False)
  | _ => False
def KF (A : AV → Prop) (v : PV) : Prop := A (.p v)
theorem fd_eq {f : Nat} {v : AV} : fieldW P t f v A = fdG (fldT P t f) v A := _root_.id rfl
theorem fd_p {off : Nat} {xs : List PV} : fdG (some (off, 1, false)) (.p (.agg xs)) A = gtO xs[off]? (KF A) := by
  simp only [fdG, gt, Int.toNat_natCast, Int.natCast_nonneg, true_and]; rfl
theorem fd_a {off : Nat} {xs : List AV} : fdG (some (off, 1, false)) (.agg xs) A = nthO xs[off]? A := _root_.id rfl
theorem kf_eq {v : PV} : KF A v = A (.p v) := _root_.id rfl
def faG (s : Option (Nat × Nat × Bool)) (a : AV) (A : AV → Prop) : Prop :=
  match s with
  | some (off, n, _) => n ≠ 0 ∧ (match a with
    | .p (.pc xs) => A (.p (.pc (xs.drop off)))
    | .ptr id o => A (.ptr id (o + off))
    | _ => False)
  | none => False
theorem fa_eq {f : Nat} {v : AV} : fieldAddrW P t f v A = faG (fldT P t f) v A := _root_.id rfl
theorem fa_pc {off n : Nat} {b : Bool} {xs : List PV} : faG (some (off, n, b)) (.p (.pc xs)) A = (n ≠ 0 ∧ A (.p (.pc (xs.drop off)))) := _root_.id rfl
theorem fa_ptr {off n id o : Nat} {b : Bool} : faG (some (off, n, b)) (.ptr id o) A = (n ≠ 0 ∧ A (.ptr id (o + off))) := _root_.id rfl
def bdG (pl : Option (List Nat)) (zs : Option (List PV)) (parts : List (Nat × AV)) (K : AV → Prop) : Prop :=
  match pl, zs with
  | some places, some zs => fillW places (zs.map .p) parts fun cs => K (.agg cs)
  | _, _ => False
def KG (K : AV → Prop) (cs : List AV) : Prop := K (.agg cs)
def fiG (pl : List Nat) (cells : List AV) (o : Option Nat) (v : AV) (rest : List (Nat × AV)) (K : List AV → Prop) : Prop :=
  match o with
  | some o => o < cells.length ∧ v.one1 ∧ fillW pl (cells.set o v) rest K
  | none => False
theorem w_build {parts : Array (Nat × Operand)} : opB P sg ρ h k (.build t parts) C = buildW P t (parts.toList.map fun p => (p.1, ρ p.2)) (KW C) := _root_.id rfl
theorem bd_eq {parts : List (Nat × AV)} : buildW P t parts A = bdG (placesT P t) (zeroT P t) parts A := _root_.id rfl
theorem bd_go {pl : List Nat} {zs : List PV} {parts : List (Nat × AV)} : bdG (some pl) (some zs) parts A = fillW pl (zs.map .p) parts (KG A) := _root_.id rfl
theorem fi_nil {pl : List Nat} {cells : List AV} {K : List AV → Prop} : fillW pl cells [] K = K cells := _root_.id rfl
theorem fi_cons {pl : List Nat} {cells : List AV} {i : Nat} {v : AV} {rest : List (Nat × AV)} {K : List AV → Prop} : fillW pl cells ((i, v) :: rest) K = fiG pl cells pl[i]? v rest K := _root_.id rfl
theorem fi_some {pl : List Nat} {cells : List AV} {o : Nat} {v : AV} {rest : List (Nat × AV)} {K : List AV → Prop} : fiG pl cells (some o) v rest K = (o < cells.length ∧ v.one1 ∧ fillW pl (cells.set o v) rest K) := _root_.id rfl
theorem kg_eq {cs : List AV} : KG A cs = A (.agg cs) := _root_.id rfl
theorem on_int {kd : IntKind} {n : Int} : AV.one1 (.p (.int kd n)) = True := _root_.id rfl
theorem on_bool {b : Bool} : AV.one1 (.p (.bool b)) = True := _root_.id rfl
theorem on_str {s : List UInt8} : AV.one1 (.p (.str s)) = True := _root_.id rfl
theorem on_sl {o : Fl} {s : List PV} : AV.one1 (.p (.sl o s)) = True := _root_.id rfl
theorem on_ref {i o l : Nat} : AV.one1 (.ref i o l) = True := _root_.id rfl

/-! ### conversions -/

def ciG (o : Option IntKind) (s : Bool) (n : Int) (C : R → Prop) : Prop :=
  match o with
  | some kd => s = true ∧ inR kd n ∧ C ⟨.p (.int kd n), [], []⟩
  | none => False
theorem w_conv' {a : AV} : opB P sg ρ h k (.convert t t' x) C = convW P t t' k h (ρ x) C := _root_.id rfl
theorem cv_int {kd : IntKind} {n : Int} : convW P t t' k h (.p (.int kd n)) C = ciG (intT P t') (P.underlying t).isSome n C := _root_.id rfl
theorem ci_some {kd : IntKind} {n : Int} : ciG (some kd) true n C = (inR kd n ∧ C ⟨.p (.int kd n), [], []⟩) := by simp [ciG]
def csG (b : Bool) (c : Bool) (d : Bool) (k : Nat) (s : List UInt8) (C : R → Prop) : Prop :=
  if b then C ⟨.p (.str s), [], []⟩ else c = true ∧ d = true ∧ s.length ≤ big ∧ C ⟨.ref k 0 s.length, [(k, .live false (s.map u8P))], []⟩
theorem cv_str {s : List UInt8} : convW P t t' k h (.p (.str s)) C = (strT P t = true ∧ csG (strT P t') (slT P t').isSome (u8T P t') k s C) := _root_.id rfl
theorem cs_t {c d : Bool} {s : List UInt8} : csG true c d k s C = C ⟨.p (.str s), [], []⟩ := _root_.id rfl
theorem cs_f {s : List UInt8} : csG false true true k s C = (s.length ≤ 1099511627776 ∧ C ⟨.ref k 0 s.length, [(k, .live false (s.map u8P))], []⟩) := by simp [csG, big]
def CV (C : R → Prop) (xs : List PV) (rd : List Nat) : Prop := ∃ s : List UInt8, xs = s.map (fun b => PV.int .u8 b.toNat) ∧ C ⟨.p (.str s), [], rd⟩
theorem cv_ref {id off len : Nat} : convW P t t' k h (.ref id off len) C = (strT P t' = true ∧ (slT P t).isSome = true ∧ u8T P t = true ∧ ctB (h id) id off len (CV C)) := by
  simp only [convW, cont, ctB]; cases h id <;> rfl
theorem cv_sl {o : Fl} {xs : List PV} : convW P t t' k h (.p (.sl o xs)) C = (strT P t' = true ∧ (slT P t).isSome = true ∧ u8T P t = true ∧ CV C xs []) := _root_.id rfl
theorem u8P_inj {s s' : List UInt8} (h : s.map u8P = s'.map u8P) : s = s' := by
  induction s generalizing s' with
  | nil => cases s' with
    | nil => rfl
    | cons _ _ => simp at h
  | cons a s ih => cases s' with
    | nil => simp at h
    | cons b s' =>
      simp only [List.map_cons, List.cons.injEq, u8P, PV.int.injEq, true_and] at h
      rw [ih h.2, UInt8.toNat_inj.1 (by omega : a.toNat = b.toNat)]
theorem cv_map {s : List UInt8} {rd : List Nat} : CV C (s.map u8P) rd = C ⟨.p (.str s), [], rd⟩ := by
  apply propext; constructor
  · rintro ⟨s', e, hc⟩; rw [u8P_inj (s := s) (s' := s') e]; exact hc
  · intro hc; exact ⟨s, rfl, hc⟩
theorem cv_nil {rd : List Nat} : CV C [] rd = C ⟨.p (.str []), [], rd⟩ := cv_map (s := [])
theorem cv_b1 {b : UInt8} {rd : List Nat} : CV C [.int .u8 (b.toNat : Int)] rd = C ⟨.p (.str [b]), [], rd⟩ := cv_map (s := [b])
theorem v_cv1 {n : Int} {rd : List Nat} (h0 : 0 ≤ n) (h1 : n < 256) (hc : C ⟨.p (.str [UInt8.ofNat n.toNat]), [], rd⟩) : CV C [.int .u8 n] rd :=
  ⟨_, by simp [UInt8.toNat_ofNat']; omega, hc⟩
theorem n_u8 {n : Int} : inR .u8 n = (0 ≤ n ∧ n ≤ 255) := by simp only [inR]; rfl

/-! ### greater, lesser -/

theorem w_max {ts : Array TypeId} : opB P sg ρ h k (.call { callee := .builtin .max, args := ⟨[x, y]⟩, argTypes := ts }) C = mmW true (ρ x) (ρ y) (KW C) := _root_.id rfl
theorem w_min {ts : Array TypeId} : opB P sg ρ h k (.call { callee := .builtin .min, args := ⟨[x, y]⟩, argTypes := ts }) C = mmW false (ρ x) (ρ y) (KW C) := _root_.id rfl
theorem mm_max {kd kd' : IntKind} {a b : Int} : mmW true (.p (.int kd a)) (.p (.int kd' b)) A = (kd = kd' ∧ A (.p (.int kd (max a b)))) := by
  simp only [mmW, if_true]
  rw [show (if a < b then b else a) = max a b by rw [Int.max_def]; split <;> split <;> omega]
theorem mm_min {kd kd' : IntKind} {a b : Int} : mmW false (.p (.int kd a)) (.p (.int kd' b)) A = (kd = kd' ∧ A (.p (.int kd (min a b)))) := by
  simp only [mmW, Bool.false_eq_true, if_false]
  rw [show (if b < a then b else a) = min a b by rw [Int.min_def]; split <;> split <;> omega]

/-! ### function values -/

theorem w_mf {f : FuncId} {first caps : Array Operand} : opB P sg ρ h k (.makeFunc (.func f) first caps) C = C ⟨.fn f (first.toList.map ρ) (caps.toList.map ρ), [], []⟩ := _root_.id rfl
theorem g_fnp {g : FuncId} {first caps : List PV} {vs : List AV} : callG P sg h k (.p (.fn g first caps)) vs C = pass h (sg g) (first.map .p ++ vs ++ caps.map .p) (Pk P h k g C) := by
  simp only [callG, callW]; rfl
theorem g_fna {g : FuncId} {first caps vs : List AV} : callG P sg h k (.fn g first caps) vs C = pass h (sg g) (first ++ vs ++ caps) (Pk P h k g C) := by
  simp only [callG, callW]; rfl
def PF2 (f : FuncId) (ys : List PV) (rd : List Nat) (K : PV → List Nat → Prop) (zs : List PV) (rd' : List Nat) : Prop := K (.fn f ys zs) (rd ++ rd')
def PF1 (h : Nat → Blk) (f : FuncId) (caps : List AV) (K : PV → List Nat → Prop) (ys : List PV) (rd : List Nat) : Prop := purs1 h caps (PF2 f ys rd K)
def PA1 (K : PV → List Nat → Prop) (ys : List PV) (rd : List Nat) : Prop := K (.agg ys) rd
def UP (h : Nat → Blk) (vs : List AV) (K : List PV → List Nat → Prop) (x : PV) (rd : List Nat) : Prop := purs1 h vs (UA K x rd)
theorem q_fn {f : FuncId} {first caps vs : List AV} {F : List PV → List Nat → Prop} : puG h (.fn f first caps :: vs) F = purs1 h first (PF1 h f caps (UN h vs F)) := _root_.id rfl
theorem q_agg {xs vs : List AV} {F : List PV → List Nat → Prop} : puG h (.agg xs :: vs) F = purs1 h xs (PA1 (UN h vs F)) := _root_.id rfl
theorem pf1_eq {f : FuncId} {caps : List AV} {K : PV → List Nat → Prop} {ys : List PV} {rd : List Nat} : PF1 h f caps K ys rd = purs1 h caps (PF2 f ys rd K) := _root_.id rfl
theorem pf2_eq {f : FuncId} {K : PV → List Nat → Prop} {ys zs : List PV} {rd rd' : List Nat} : PF2 f ys rd K zs rd' = K (.fn f ys zs) (rd ++ rd') := _root_.id rfl
theorem pa1_eq {K : PV → List Nat → Prop} {ys : List PV} {rd : List Nat} : PA1 K ys rd = K (.agg ys) rd := _root_.id rfl
theorem ps_nil {K : List PV → List Nat → Prop} : purs1 h [] K = K [] [] := _root_.id rfl
theorem ps_p {v : PV} {vs : List AV} {K : List PV → List Nat → Prop} : purs1 h (.p v :: vs) K = purs1 h vs (UA K v.cell []) := _root_.id rfl
theorem ps_ref {id off len : Nat} {vs : List AV} {K : List PV → List Nat → Prop} : purs1 h (.ref id off len :: vs) K = refG (h id) id off len (UP h vs K) := by
  simp only [purs1, pur1, refG]; cases h id <;> rfl
theorem up_eq {v : PV} {vs : List AV} {K : List PV → List Nat → Prop} {rd : List Nat} : UP h vs K v rd = purs1 h vs (UA K v rd) := _root_.id rfl
def ptG (b : Blk) (id off : Nat) (F : PV → List Nat → Prop) : Prop :=
  match b with
  | .live _ c => F (.pc (c.drop off)) [id]
  | .froz _ c => F (.pc (c.drop off)) [id]
  | .dead => False
theorem q_ptr {id off : Nat} {vs : List AV} {F : List PV → List Nat → Prop} : puG h (.ptr id off :: vs) F = ptG (h id) id off (UN h vs F) := by
  simp only [puG, pur, pur1, ptG]; cases h id <;> rfl
theorem pt_live {m : Bool} {c : List PV} {id off : Nat} {F : PV → List Nat → Prop} : ptG (.live m c) id off F = F (.pc (c.drop off)) [id] := _root_.id rfl
theorem pt_froz {m : Bool} {c : List PV} {id off : Nat} {F : PV → List Nat → Prop} : ptG (.froz m c) id off F = F (.pc (c.drop off)) [id] := _root_.id rfl
def ncG (v : AV) (C : R → Prop) : Prop := match v with | .ptr id off => C ⟨.ptr id off, [], []⟩ | .p (.pc xs) => C ⟨.p (.pc xs), [], []⟩ | .p (.fn f a b) => C ⟨.p (.fn f a b), [], []⟩ | .fn f a b => C ⟨.fn f a b, [], []⟩ | _ => False
theorem w_nc : opB P sg ρ h k (.nilCheck x) C = ncG (ρ x) C := _root_.id rfl
theorem nc_ptr {id off : Nat} : ncG (.ptr id off) C = C ⟨.ptr id off, [], []⟩ := _root_.id rfl
theorem nc_pc {xs : List PV} : ncG (.p (.pc xs)) C = C ⟨.p (.pc xs), [], []⟩ := _root_.id rfl
theorem nc_fn {f : FuncId} {a b : List PV} : ncG (.p (.fn f a b)) C = C ⟨.p (.fn f a b), [], []⟩ := _root_.id rfl
theorem nc_fna {f : FuncId} {a b : List AV} : ncG (.fn f a b) C = C ⟨.fn f a b, [], []⟩ := _root_.id rfl

/-! ### memory that is lent to a callee -/

def muB (b : Blk) (id len : Nat) (F : List PV → Prop) : Prop :=
  match b with
  | .live _ c => len = c.length ∧ F c
  | _ => False
/-- What is behind a slice that is lent. -/
def MU (h : Nat → Blk) (sg : List Bool) (vs : List AV) (id : Nat) (K : List Arg → List Nat → List (Option Nat) → Prop) (c : List PV) : Prop :=
  pass h sg vs fun as rd ms => K (.mu false c :: as) rd (some id :: ms)
def MF (id : Nat) (c : List PV) (K : List Arg → List Nat → List (Option Nat) → Prop) (as : List Arg) (rd : List Nat) (ms : List (Option Nat)) : Prop := K (.mu false c :: as) rd (some id :: ms)
def PQ (F : List Arg → List Nat → List (Option Nat) → Prop) (xs : List PV) (rd : List Nat) : Prop := F (xs.map .pv) rd (xs.map fun _ => none)
theorem mu_ref {sg : List Bool} {id len : Nat} {vs : List AV} {K : List Arg → List Nat → List (Option Nat) → Prop} : pass h (true :: sg) (.ref id 0 len :: vs) K = muB (h id) id len (MU h sg vs id K) := by
  simp only [pass, muB, MU]; cases h id <;> rfl
theorem mu_live {m : Bool} {c : List PV} {id len : Nat} {F : List PV → Prop} : muB (.live m c) id len F = (len = c.length ∧ F c) := _root_.id rfl
theorem mu_nx {sg : List Bool} {id : Nat} {c : List PV} {vs : List AV} {K : List Arg → List Nat → List (Option Nat) → Prop} : MU h sg vs id K c = pass h sg vs (MF id c K) := _root_.id rfl
theorem mu_all {vs : List AV} {id : Nat} {c : List PV} {K : List Arg → List Nat → List (Option Nat) → Prop} : pass h [] vs (MF id c K) = puG h vs (PQ (MF id c K)) := pass_pu
theorem mu_pq {F : List Arg → List Nat → List (Option Nat) → Prop} {xs : List PV} {rd : List Nat} : PQ F xs rd = F (xs.map .pv) rd (xs.map fun _ => none) := _root_.id rfl
theorem mu_mf {id : Nat} {c : List PV} {K : List Arg → List Nat → List (Option Nat) → Prop} {as : List Arg} {rd : List Nat} {ms : List (Option Nat)} : MF id c K as rd ms = K (.mu false c :: as) rd (some id :: ms) := _root_.id rfl

end
end Go.Gl
