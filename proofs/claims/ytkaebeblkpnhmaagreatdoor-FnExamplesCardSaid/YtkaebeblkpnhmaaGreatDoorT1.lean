/-
  What the functions compute, and what the law asks of it: texts joined. Conditions: those that each lemma names.
-/
import Derived.Test.YtkaebeblkpnhmaaGreatDoorA0
import Derived.Test.YtkaebeblkpnhmaaGreatDoorGlC
import Derived.Shelf.Strings.Builder1
import Derived.Shelf.Strings.Builder2
import Derived.Shelf.Strings.OnBuilder
import Derived.Shelf.Strconv.Itoa0
import Derived.Shelf.Strconv.Itoa1
import Derived.Shelf.LaysM
import Derived.Shelf.Strconv.Itoa2
import Derived.Shelf.Strconv.Itoa3
import Derived.Shelf.Strings.Search1
import Derived.Shelf.Unicode.Decode
import Derived.Shelf.Strings.RuneCount
import Derived.Shelf.Unicode.DecodeSlow
import Derived.Ground.Names2Prog
import Derived.Shelf.Slices.Clone
import Derived.Test.YtkaebeblkpnhmaaGreatDoorProg
import Derived.Lib.Join
import Derived.Lib.ItoaLen
import Derived.Lib.AppendIntMem
import Derived.Shelf.Strings.Search2
import Derived.Shelf.Strings.Search3
import Derived.Shelf.Strings.Count
import Derived.Shelf.Strings.Shaped
import Derived.Shelf.Strings.Split
import Derived.Shelf.Strings.Explode
set_option linter.unusedSimpArgs false
set_option linter.unusedVariables false
set_option maxRecDepth 20000
set_option linter.unusedSectionVars false
namespace Go.Gl
open Go Go.Proofs
variable [Amb]
theorem spec_l1In_c (a b c : Int) : Fun Tryz.prog 53 [(.int .i64 (a)), (.int .i64 (b)), (.int .i64 (c))] [(.bool ((decide (b ≤ a) && decide (a ≤ c))))] := by
 refine fO sg0 [6] Tryz.func53 ?_
 refine dE trivial ?_
 all_goals try (refine zlf ?_; repeat' first | exact zso | refine And.intro ?_ ?_ | (refine zim ?_; intro zb hc) | (refine zin ?_; intro zb) | intro j')
 all_goals try refine zbx ?_
def bitI (b : Bool) : Int := if b then 1 else 0
theorem bitI_r (b : Bool) : 0 ≤ bitI b ∧ bitI b ≤ 1 := by cases b <;> decide
theorem spec_l1Bit_c (b : Bool) : Fun Tryz.prog 57 [(.bool (b))] [(.int .i64 (bitI b))] := by
 refine fO sg0 [2] Tryz.func57 ?_
 refine dE trivial ?_
 all_goals try (refine zlf ?_; repeat' first | exact zso | refine And.intro ?_ ?_ | (refine zim ?_; intro zb hc) | (refine zin ?_; intro zb) | intro j')
 all_goals try refine zbx ?_
 all_goals simp [bitI, hc]
theorem spec_l1Max_c (a b : Int) : Fun Tryz.prog 59 [(.int .i64 (a)), (.int .i64 (b))] [(.int .i64 (max a b))] := by
 refine fO sg0 [4] Tryz.func59 ?_
 refine dE trivial ?_
 all_goals try (refine zlf ?_; repeat' first | exact zso | refine And.intro ?_ ?_ | (refine zim ?_; intro zb hc) | (refine zin ?_; intro zb) | intro j')
 all_goals try refine zbx ?_
 all_goals omega
theorem drop_at {s : List UInt8} {k : Nat} (h : k < s.length) : s.drop k = s.getD k 0 :: s.drop (k + 1) := by
 rw [List.drop_eq_getElem_cons h, List.getD_eq_getElem?_getD, List.getElem?_eq_getElem h]; rfl
theorem dropI_at {s : List Int} {k : Nat} (h : k < s.length) : s.drop k = s.getD k 0 :: s.drop (k + 1) := by
 rw [List.drop_eq_getElem_cons h, List.getD_eq_getElem?_getD, List.getElem?_eq_getElem h]; rfl
end Go.Gl
set_option linter.unusedSimpArgs false
set_option linter.unusedVariables false
set_option maxRecDepth 20000
set_option linter.unusedSectionVars false
namespace Go.Gl
open Go Go.Proofs
variable [Amb]
/-- Each of the numbers 1 to the length once, from place k on, those in 'seen' seen. -/
def permGo (n : Int) : List Int → List Int → Bool
 | _, [] => true
 | seen, v :: p => decide (1 ≤ v) && decide (v ≤ n) && !(seen.contains v) && permGo n (seen ++ [v]) p
def permB (p : List Int) : Bool := permGo p.length [] p
def isPermB (p : List Int) : Bool := decide (p.length ≤ 8) && permB p
theorem contains_take {l : List Int} {k : Nat} {x : Int} (h : k < l.length) : (l.take (k + 1)).contains x = ((l.take k).contains x || decide (x = l.getD k 0)) := by
 rw [List.take_add_one, List.getD_eq_getElem?_getD, List.getElem?_eq_getElem h]
 simp only [Option.toList_some, Option.getD_some, List.contains_append]
 congr 1
 simp [List.contains_cons]
theorem contains_at {l : List Int} {k : Nat} (h : k < l.length) : l.contains (l.getD k 0) = true := by
 rw [List.getD_eq_getElem?_getD, List.getElem?_eq_getElem h]; simp
theorem permGo_step {n : Int} {p : List Int} {k : Nat} (h : k < p.length) : permGo n (p.take k) (p.drop k) = (decide (1 ≤ p.getD k 0) && decide (p.getD k 0 ≤ n) && !((p.take k).contains (p.getD k 0)) && permGo n (p.take (k + 1)) (p.drop (k + 1))) := by
 rw [dropI_at h, permGo]
 congr 2
 rw [List.take_add_one, List.getD_eq_getElem?_getD, List.getElem?_eq_getElem h]; rfl
theorem spec_l2Has_c {m0 : Bool} (l : List Int) (x : Int) (hl : l.length ≤ 1099511627776) : Fun Tryz.prog 92 [(.sl (.lent m0) (List.map (PV.int .i64) (l))), (.int .i64 (x))] [(.bool (l.contains x))] := by
 refine fO sg0 [4] Tryz.func92 ?_
 refine dE trivial ?_
 all_goals try (refine zlf ?_; repeat' first | exact zso | refine And.intro ?_ ?_ | (refine zim ?_; intro zb hc) | (refine zin ?_; intro zb) | intro j')
 all_goals try refine zbx ?_
 refine v_loopB (fun ms1 S1 => ∃ (k : Nat), S1.e 0 = .p (.sl (.lent m0) (List.map (PV.int .i64) (l))) ∧ S1.e 1 = .p (.int .i64 (x)) ∧ S1.e 5 = .p (.int .i64 (k)) ∧ (k ≤ l.length) ∧ ((l.take k).contains x = false) ∧ ms1 = l.length - k) ((fun (k : Nat) => l.length - k) (0)) ?_ ⟨0, dIa trivial ?_⟩
 all_goals try (refine zlf ?_; repeat' first | exact zso | refine And.intro ?_ ?_ | (refine zim ?_; intro zb hc) | (refine zin ?_; intro zb) | intro j')
 all_goals try refine zbx ?_
 rintro ms1 S1 ⟨k, h1_0, h1_1, h1_5, c1_0, c1_1, hm1⟩
 have fL1 := (And.intro h1_0 (And.intro h1_1 h1_5))
 refine dEa fL1 ?_
 all_goals try (refine zlf ?_; repeat' first | exact zso | refine And.intro ?_ ?_ | (refine zim ?_; intro zb hc) | (refine zin ?_; intro zb) | intro j')
 all_goals try refine zbx ?_
 ·rw [← hc, contains_at (by omega)]
 ·focus
   refine q_lp_n ((fun (k : Nat) => l.length - k) (k+1)) (dC fL1 ?_) ⟨k+1, dC fL1 ?_⟩
   all_goals try (refine zlf ?_; repeat' first | exact zso | refine And.intro ?_ ?_ | (refine zim ?_; intro zb hc) | (refine zin ?_; intro zb) | intro j')
   all_goals try refine zbx ?_
  rw [contains_take (by omega), c1_1, Bool.false_or]; exact decide_eq_false (fun e => hc e.symm)
 ·rw [← c1_1, List.take_of_length_le (by omega)]
theorem spec_IsPerm_c {m0 : Bool} (p : List Int) (hl : p.length ≤ 1048576) : Fun Tryz.prog 49 [(.sl (.lent m0) (List.map (PV.int .i64) (p)))] [(.bool (isPermB p))] := by
 refine fO sg0 [2] Tryz.func49 ?_
 have cE1 := @spec_l1In_c; have cE2 := @spec_l2Has_c; have cD1 := zdh [false, false, false, false, false, false, true, false, false, false, false, false, false, false, false, false, true, false] []
 refine dE trivial ?_
 all_goals try (refine zlf ?_; repeat' first | exact zso | refine And.intro ?_ ?_ | (refine zim ?_; intro zb hc) | (refine zin ?_; intro zb) | intro j')
 all_goals try refine zbx ?_
 refine v_loopB (fun ms1 S1 => ∃ (k : Nat), S1.e 0 = .p (.sl (.lent m0) (List.map (PV.int .i64) (p))) ∧ S1.e 3 = .p (.int .i64 (k)) ∧ (k ≤ p.length) ∧ (p.length ≤ 8 → permB p = permGo p.length (p.take k) (p.drop k)) ∧ ms1 = p.length - k) ((fun (k : Nat) => p.length - k) (0)) ?_ ⟨0, dIa trivial ?_⟩
 all_goals try (refine zlf ?_; repeat' first | exact zso | refine And.intro ?_ ?_ | (refine zim ?_; intro zb hc) | (refine zin ?_; intro zb) | intro j')
 all_goals try refine zbx ?_
 rintro ms1 S1 ⟨k, h1_0, h1_3, c1_0, c1_1, hm1⟩
 have fL1 := (And.intro h1_0 h1_3)
 refine dEa fL1 ?_
 all_goals try (refine zlf ?_; repeat' first | exact zso | refine And.intro ?_ ?_ | (refine zim ?_; intro zb hc) | (refine zin ?_; intro zb) | intro j')
 all_goals try refine zbx ?_
 all_goals try (have c2 := c1_1 (by omega); rw [permGo_step (by omega)] at c2)
 ·simp only [isPermB, c2, hc]; simp
 ·focus
   refine q_lp_n ((fun (k : Nat) => p.length - k) (k+1)) (dC fL1 ?_) ⟨k+1, dC fL1 ?_⟩
   all_goals try (refine zlf ?_; repeat' first | exact zso | refine And.intro ?_ ?_ | (refine zim ?_; intro zb hc) | (refine zin ?_; intro zb) | intro j')
   all_goals try refine zbx ?_
  intro h; rw [c2, hc, decide_eq_true (by omega), decide_eq_true (by omega)]; rfl
 ·simp only [isPermB, c2]
  rcases hc with hc | hc
  ·rw [decide_eq_false (by omega : ¬ 1 ≤ p.getD k 0)]; simp
  ·rw [decide_eq_false (by omega : ¬ p.getD k 0 ≤ (p.length : Int))]; simp
 ·rw [isPermB, decide_eq_false (by omega)]; rfl
 ·by_cases h8 : p.length ≤ 8
  ·rw [isPermB, c1_1 h8, List.drop_of_length_le (by omega), permGo, Bool.and_true]; congr 1; simp only [eq_iff_iff]; omega
  ·rw [isPermB, decide_eq_false h8, decide_eq_false (by omega)]; rfl
 ·rfl
theorem impl_isPerm_c {m0 : Bool} (p : List Int) (hl : p.length ≤ 1048576) : Fun Tryz.prog 103 [(.sl (.lent m0) (List.map (PV.int .i64) (p)))] [(.bool (permB p))] := by
 refine fO sg0 [2] Tryz.func103 ?_
 refine dEa trivial ?_
 all_goals try (refine zlf ?_; repeat' first | exact zso | refine And.intro ?_ ?_ | (refine zim ?_; intro zb hc) | (refine zin ?_; intro zb) | intro j')
 all_goals try refine zbx ?_
 refine v_loopB (fun ms1 S1 => ∃ (k : Nat) (seen : List Bool), S1.e 0 = .p (.sl (.lent m0) (List.map (PV.int .i64) (p))) ∧ S1.e 10 = .p (.sl (.lent m0) (List.map (PV.int .i64) (p))) ∧ OwnL (S1.e 3) S1.h S1.n PV.bool ((seen).length) (seen) ∧ S1.e 11 = .p (.int .i64 (p.length)) ∧ S1.e 12 = .p (.int .i64 (k)) ∧ (k ≤ p.length) ∧ (seen.length = p.length + 1) ∧ (permB p = permGo p.length (p.take k) (p.drop k)) ∧ (∀ v : Nat, 1 ≤ v → v ≤ p.length → seen.getD v false = (p.take k).contains (v : Int)) ∧ ms1 = p.length - k) ((fun (k : Nat) (seen : List Bool) => p.length - k) (0) (List.replicate (p.length+1) false)) ?_ ⟨0, List.replicate (p.length+1) false, dI trivial ?_⟩
 all_goals try (refine zlf ?_; repeat' first | exact zso | refine And.intro ?_ ?_ | (refine zim ?_; intro zb hc) | (refine zin ?_; intro zb) | intro j')
 all_goals try refine zbx ?_
 rintro ms1 S1 ⟨k, seen, h1_0, h1_10, o1_3, h1_11, h1_12, c1_0, c1_1, c1_2, c1_3, hm1⟩
 obtain ⟨i1_3, h1_3, b1_3, l1_3⟩ := o1_3.out
 have ni1_3 := znds (x := i1_3) (n := S1.n)
 have fL1 := (And.intro h1_0 (And.intro h1_10 (And.intro h1_11 (And.intro h1_12 (And.intro h1_3 (And.intro b1_3 ni1_3))))))
 refine dE fL1 ?_
 all_goals try (refine zlf ?_; repeat' first | exact zso | refine And.intro ?_ ?_ | (refine zim ?_; intro zb hc) | (refine zin ?_; intro zb) | intro j')
 all_goals try refine zbx ?_
 all_goals try rw [permGo_step (by omega)] at c1_2
 all_goals try exact zaut
 ·rw [c1_2, ← show ((p.getD k 0).toNat : Int) = p.getD k 0 by omega, ← c1_3 _ (by omega) (by omega), hc]; simp
 ·focus
   refine q_lp_n ((fun (k : Nat) (seen : List Bool) => p.length - k) (k+1) (seen.set (p.getD k 0).toNat true)) (dC fL1 ?_) ⟨k+1, seen.set (p.getD k 0).toNat true, dC fL1 ?_⟩
   all_goals try (refine zlf ?_; repeat' first | exact zso | refine And.intro ?_ ?_ | (refine zim ?_; intro zb hc) | (refine zin ?_; intro zb) | intro j')
   all_goals try refine zbx ?_
  ·rw [c1_2, decide_eq_true (by omega), decide_eq_true (by omega), ← show ((p.getD k 0).toNat : Int) = p.getD k 0 by omega, ← c1_3 _ (by omega) (by omega), hc]; rfl
  ·intro v h1 h2
   rw [contains_take (by omega), ← c1_3 v h1 h2, List.getD_eq_getElem?_getD, List.getElem?_set]
   by_cases e : (p.getD k 0).toNat = v
   ·rw [if_pos e, if_pos (by omega), decide_eq_true (by omega)]; simp
   ·rw [if_neg e, decide_eq_false (by omega), Bool.or_false, List.getD_eq_getElem?_getD]
 ·rw [c1_2, decide_eq_false (by omega : ¬ p.getD k 0 ≤ (p.length : Int))]; simp
 ·rw [c1_2, decide_eq_false (by omega : ¬ 1 ≤ p.getD k 0)]; simp
 ·rw [c1_2, List.drop_of_length_le (by omega)]; rfl
 ·intro v h1 h2; rw [List.getD_eq_getElem?_getD, List.getElem?_replicate]; split <;> rfl
theorem impl_IsPerm_c {m0 : Bool} (p : List Int) (hl : p.length ≤ 1048576) : Fun Tryz.prog 63 [(.sl (.lent m0) (List.map (PV.int .i64) (p)))] [(.bool (isPermB p))] := by
 refine fO sg0 [2] Tryz.func63 ?_
 have cE1 := @impl_isPerm_c
 refine dEa trivial ?_
 all_goals try (refine zlf ?_; repeat' first | exact zso | refine And.intro ?_ ?_ | (refine zim ?_; intro zb hc) | (refine zin ?_; intro zb) | intro j')
 all_goals try refine zbx ?_
 ·rw [isPermB, decide_eq_true (by omega), Bool.true_and]
 ·rw [isPermB, decide_eq_false (by omega)]; rfl
end Go.Gl
namespace Go.Proofs
open Go.Shelf
def Tryz.lays156_ren : Go.Shelf.Ren := ⟨fun | 156 => 41 | 165 => 81 | 166 => 82 | 169 => 83 | 240 => 119 | 241 => 120 | 276 => 137 | 277 => 138 | n => n, fun | 31 => 42 | 9 => 9 | 3 => 3 | 4 => 4 | 0 => 0 | 20 => 20 | 72 => 68 | 76 => 72 | 70 => 66 | 37 => 30 | 75 => 71 | 127 => 96 | 164 => 107 | 5 => 5 | 80 => 74 | n => n, fun | n => n⟩
theorem Tryz.lays156 : Go.Proofs.Lays.n156 Tryz.prog Tryz.lays156_ren := {
 mixed := by kernel_rfl
 f156 := Tryz.func41.trans (congrArg some (by kernel_rfl))
 f165 := Tryz.func81.trans (congrArg some (by kernel_rfl))
 f166 := Tryz.func82.trans (congrArg some (by kernel_rfl))
 f169 := Tryz.func83.trans (congrArg some (by kernel_rfl))
 f240 := Tryz.func119.trans (congrArg some (by kernel_rfl))
 f241 := Tryz.func120.trans (congrArg some (by kernel_rfl))
 f276 := Tryz.func137.trans (congrArg some (by kernel_rfl))
 f277 := Tryz.func138.trans (congrArg some (by kernel_rfl))
 t0 := Tryz.underlying0
 a0 := Tryz.isAgg0
 z0 := Tryz.sizeOf0
 v0 := Tryz.zeroValue0
 t3 := Tryz.underlying3
 a3 := Tryz.isAgg3
 z3 := Tryz.sizeOf3
 v3 := Tryz.zeroValue3
 t4 := Tryz.underlying4
 a4 := Tryz.isAgg4
 z4 := Tryz.sizeOf4
 v4 := Tryz.zeroValue4
 t9 := Tryz.underlying9
 a9 := Tryz.isAgg9
 z9 := Tryz.sizeOf9
 v9 := Tryz.zeroValue9
 t20 := Tryz.underlying20
 a20 := Tryz.isAgg20
 z20 := Tryz.sizeOf20
 v20 := Tryz.zeroValue20
 t31 := Tryz.underlying42
 a31 := Tryz.isAgg42
 z31 := Tryz.sizeOf42
 v31 := Tryz.zeroValue42
 t37 := Tryz.underlying30
 a37 := Tryz.isAgg30
 z37 := Tryz.sizeOf30
 v37 := Tryz.zeroValue30
 t70 := Tryz.underlying66
 a70 := Tryz.isAgg66
 z70 := Tryz.sizeOf66
 v70 := Tryz.zeroValue66
 t72 := Tryz.underlying68
 a72 := Tryz.isAgg68
 z72 := Tryz.sizeOf68
 v72 := Tryz.zeroValue68
 t75 := Tryz.underlying71
 a75 := Tryz.isAgg71
 z75 := Tryz.sizeOf71
 v75 := Tryz.zeroValue71
 t76 := Tryz.underlying72
 a76 := Tryz.isAgg72
 z76 := Tryz.sizeOf72
 v76 := Tryz.zeroValue72
 t127 := Tryz.underlying96
 a127 := Tryz.isAgg96
 z127 := Tryz.sizeOf96
 v127 := Tryz.zeroValue96
 t164 := Tryz.underlying107
 a164 := Tryz.isAgg107
 z164 := Tryz.sizeOf107
 v164 := Tryz.zeroValue107 }
theorem Tryz.Builder_Extra_156 : Builder.Extra Tryz.prog Tryz.lays156_ren := {
 sizeBuilder := by kernel_rfl
 liesBuilder := by kernel_rfl
 t5 := Tryz.underlying5
 a5 := Tryz.isAgg5
 z5 := Tryz.sizeOf5
 v5 := Tryz.zeroValue5
 infoByte := by kernel_rfl
 cellsByte := by kernel_rfl
 sizeByte := by kernel_rfl
 neB5 := by decide }
open Go.RowKit in
/-- No element: the empty string; the world is as it was. (Whatever the slice's address and capacity: a nil slice too.) (LAID: no walk: one application.) -/
theorem Tryz.strings_Join_none (a : Option Addr) (c : Nat) (sep : ByteArray) (w : World) :
  Calls Tryz.prog 41 #[.slice a 0 c, .string sep] w fun e w' => e = .returned (.string ⟨#[]⟩) ∧ w' = w := Any.strings_Join_none Tryz.lays156 Tryz.Builder_Extra_156 a c sep w
open Go.RowKit in
/-- strings.Join: "Join concatenates the elements of its first argument to create a single string. The separator string sep is placed between elements in the resulting string.": HOWEVER MANY ELEMENTS. Below the heap's end the world is as it was. (LAID: no walk: one application.) -/
theorem Tryz.strings_Join (bk o c : Nat) (xs : List ByteArray) (sep : ByteArray) (w : World) (hcells : ∀ (j : Nat) x, xs[j]? = some x → w.cell? ⟨bk, o + j, none⟩ = some (.string x)) (hbk : bk < w.heap.size) (hN : xs.length ≤ 140737488355328) (hcap : xs.length ≤ c) (hlen : (Lib.join (xs.map (·.data.toList)) sep.data.toList).length ≤ 140737488355328) :
  Calls Tryz.prog 41 #[.slice (some ⟨bk, o, none⟩) xs.length c, .string sep] w fun e w' => e = .returned (.string ⟨(Lib.join (xs.map (·.data.toList)) sep.data.toList).toArray⟩) ∧ Below w.heap.size w w' := Any.strings_Join Tryz.lays156 Tryz.Builder_Extra_156 bk o c xs sep w hcells hbk hN hcap hlen
def Tryz.laysM171_ren : Go.Shelf.Ren := ⟨fun | 171 => 75 | 243 => 112 | 246 => 132 | 283 => 145 | 284 => 146 | 285 => 147 | 286 => 148 | 129 => 155 | 317 => 154 | 318 => 156 | 319 => 157 | 320 => 158 | 337 => 164 | 338 => 165 | n => n, fun | 3 => 3 | 9 => 9 | 2 => 2 | 4 => 4 | 171 => 112 | 0 => 0 | 53 => 113 | 37 => 30 | 5 => 5 | 173 => 116 | 212 => 123 | 51 => 124 | 20 => 20 | 213 => 125 | 46 => 87 | 232 => 134 | 233 => 135 | n => n, fun | 17 => 1 | 18 => 4 | 19 => 5 | n => n⟩
theorem Tryz.laysM171 : Go.Proofs.LaysM.n171 Tryz.prog Tryz.laysM171_ren := {
 mixed := by kernel_rfl
 f129 := Tryz.func155.trans (congrArg some (by kernel_rfl))
 f171 := Tryz.func75.trans (congrArg some (by kernel_rfl))
 f243 := Tryz.func112.trans (congrArg some (by kernel_rfl))
 f246 := Tryz.func132.trans (congrArg some (by kernel_rfl))
 f283 := Tryz.func145.trans (congrArg some (by kernel_rfl))
 f284 := Tryz.func146.trans (congrArg some (by kernel_rfl))
 f285 := Tryz.func147.trans (congrArg some (by kernel_rfl))
 f286 := Tryz.func148.trans (congrArg some (by kernel_rfl))
 f317 := Tryz.func154.trans (congrArg some (by kernel_rfl))
 f318 := Tryz.func156.trans (congrArg some (by kernel_rfl))
 f319 := Tryz.func157.trans (congrArg some (by kernel_rfl))
 f320 := Tryz.func158.trans (congrArg some (by kernel_rfl))
 f337 := Tryz.func164.trans (congrArg some (by kernel_rfl))
 f338 := Tryz.func165.trans (congrArg some (by kernel_rfl))
 t0 := Tryz.underlying0
 a0 := Tryz.isAgg0
 z0 := Tryz.sizeOf0
 v0 := Tryz.zeroValue0
 t2 := Tryz.underlying2
 a2 := Tryz.isAgg2
 z2 := Tryz.sizeOf2
 v2 := Tryz.zeroValue2
 t3 := Tryz.underlying3
 a3 := Tryz.isAgg3
 z3 := Tryz.sizeOf3
 v3 := Tryz.zeroValue3
 t4 := Tryz.underlying4
 a4 := Tryz.isAgg4
 z4 := Tryz.sizeOf4
 v4 := Tryz.zeroValue4
 t5 := Tryz.underlying5
 a5 := Tryz.isAgg5
 z5 := Tryz.sizeOf5
 v5 := Tryz.zeroValue5
 t9 := Tryz.underlying9
 a9 := Tryz.isAgg9
 z9 := Tryz.sizeOf9
 v9 := Tryz.zeroValue9
 t20 := Tryz.underlying20
 a20 := Tryz.isAgg20
 z20 := Tryz.sizeOf20
 v20 := Tryz.zeroValue20
 t37 := Tryz.underlying30
 a37 := Tryz.isAgg30
 z37 := Tryz.sizeOf30
 v37 := Tryz.zeroValue30
 t46 := Tryz.underlying87
 a46 := Tryz.isAgg87
 z46 := Tryz.sizeOf87
 v46 := Tryz.zeroValue87
 t51 := Tryz.underlying124
 a51 := Tryz.isAgg124
 z51 := Tryz.sizeOf124
 v51 := Tryz.zeroValue124
 t53 := Tryz.underlying113
 a53 := Tryz.isAgg113
 z53 := Tryz.sizeOf113
 v53 := Tryz.zeroValue113
 t171 := Tryz.underlying112
 a171 := Tryz.isAgg112
 z171 := Tryz.sizeOf112
 v171 := Tryz.zeroValue112
 t173 := Tryz.underlying116
 a173 := Tryz.isAgg116
 z173 := Tryz.sizeOf116
 v173 := Tryz.zeroValue116
 t212 := Tryz.underlying123
 a212 := Tryz.isAgg123
 z212 := Tryz.sizeOf123
 v212 := Tryz.zeroValue123
 t213 := Tryz.underlying125
 a213 := Tryz.isAgg125
 z213 := Tryz.sizeOf125
 t232 := Tryz.underlying134
 a232 := Tryz.isAgg134
 z232 := Tryz.sizeOf134
 v232 := Tryz.zeroValue134
 t233 := Tryz.underlying135
 a233 := Tryz.isAgg135
 z233 := Tryz.sizeOf135
 v233 := Tryz.zeroValue135
 g17 := by kernel_rfl
 g18 := by kernel_rfl
 g19 := by kernel_rfl
 i0 := by kernel_rfl
 i2 := by kernel_rfl
 i3 := by kernel_rfl
 i4 := by kernel_rfl
 i5 := by kernel_rfl
 i9 := by kernel_rfl
 i20 := by kernel_rfl
 i37 := by kernel_rfl
 i46 := by kernel_rfl
 i51 := by kernel_rfl
 i53 := by kernel_rfl
 i171 := by kernel_rfl
 i173 := by kernel_rfl
 i212 := by kernel_rfl
 i232 := by kernel_rfl
 i233 := by kernel_rfl
 m17 := by kernel_rfl
 m18 := by kernel_rfl
 m19 := by kernel_rfl }
open Go.RowKit Go.Sort Go.Lib in
/-- strconv.Itoa: "Itoa is equivalent to FormatInt(int64(i), 10).": i's DECIMAL NUMERAL ('Lib.itoa': a '-' where i is negative, then the digits), FOR EVERY int. The world behind the call: the world before it, new blocks behind the heap (the library's 'var a [24]byte'), draws. (LAID: no walk: one application.) -/
theorem Tryz.strconv_Itoa (n : Int) (h0 : -9223372036854775808 ≤ n) (h1 : n ≤ 9223372036854775807) (w : World) (htab : Lib.TabIs Tryz.prog w "internal/strconv.uint64pow10" .u64 Lib.pow10Tab) :
  Calls Tryz.prog 75 #[.int .i64 n] w fun e w' => e = .returned (.string ⟨(Lib.itoa n).toArray⟩) ∧ ∃ k os, w' = grow (w.drewN k) os := Any.strconv_Itoa Tryz.laysM171 n h0 h1 w htab
def Tryz.lays171_ren : Go.Shelf.Ren := ⟨fun | 171 => 75 | 243 => 112 | 246 => 132 | 283 => 145 | 284 => 146 | 285 => 147 | 286 => 148 | 129 => 155 | 317 => 154 | 318 => 156 | 319 => 157 | 320 => 158 | 337 => 164 | 338 => 165 | n => n, fun | 3 => 3 | 9 => 9 | 2 => 2 | 4 => 4 | 171 => 112 | 0 => 0 | 53 => 113 | 37 => 30 | 5 => 5 | 173 => 116 | 212 => 123 | 51 => 124 | 20 => 20 | 213 => 125 | 46 => 87 | 232 => 134 | 233 => 135 | n => n, fun | 17 => 1 | 18 => 4 | 19 => 5 | n => n⟩
theorem Tryz.lays171 : Go.Proofs.Lays.n171 Tryz.prog Tryz.lays171_ren := {
 mixed := by kernel_rfl
 f129 := Tryz.func155.trans (congrArg some (by kernel_rfl))
 f171 := Tryz.func75.trans (congrArg some (by kernel_rfl))
 f243 := Tryz.func112.trans (congrArg some (by kernel_rfl))
 f246 := Tryz.func132.trans (congrArg some (by kernel_rfl))
 f283 := Tryz.func145.trans (congrArg some (by kernel_rfl))
 f284 := Tryz.func146.trans (congrArg some (by kernel_rfl))
 f285 := Tryz.func147.trans (congrArg some (by kernel_rfl))
 f286 := Tryz.func148.trans (congrArg some (by kernel_rfl))
 f317 := Tryz.func154.trans (congrArg some (by kernel_rfl))
 f318 := Tryz.func156.trans (congrArg some (by kernel_rfl))
 f319 := Tryz.func157.trans (congrArg some (by kernel_rfl))
 f320 := Tryz.func158.trans (congrArg some (by kernel_rfl))
 f337 := Tryz.func164.trans (congrArg some (by kernel_rfl))
 f338 := Tryz.func165.trans (congrArg some (by kernel_rfl))
 t0 := Tryz.underlying0
 a0 := Tryz.isAgg0
 z0 := Tryz.sizeOf0
 v0 := Tryz.zeroValue0
 t2 := Tryz.underlying2
 a2 := Tryz.isAgg2
 z2 := Tryz.sizeOf2
 v2 := Tryz.zeroValue2
 t3 := Tryz.underlying3
 a3 := Tryz.isAgg3
 z3 := Tryz.sizeOf3
 v3 := Tryz.zeroValue3
 t4 := Tryz.underlying4
 a4 := Tryz.isAgg4
 z4 := Tryz.sizeOf4
 v4 := Tryz.zeroValue4
 t5 := Tryz.underlying5
 a5 := Tryz.isAgg5
 z5 := Tryz.sizeOf5
 v5 := Tryz.zeroValue5
 t9 := Tryz.underlying9
 a9 := Tryz.isAgg9
 z9 := Tryz.sizeOf9
 v9 := Tryz.zeroValue9
 t20 := Tryz.underlying20
 a20 := Tryz.isAgg20
 z20 := Tryz.sizeOf20
 v20 := Tryz.zeroValue20
 t37 := Tryz.underlying30
 a37 := Tryz.isAgg30
 z37 := Tryz.sizeOf30
 v37 := Tryz.zeroValue30
 t46 := Tryz.underlying87
 a46 := Tryz.isAgg87
 z46 := Tryz.sizeOf87
 v46 := Tryz.zeroValue87
 t51 := Tryz.underlying124
 a51 := Tryz.isAgg124
 z51 := Tryz.sizeOf124
 v51 := Tryz.zeroValue124
 t53 := Tryz.underlying113
 a53 := Tryz.isAgg113
 z53 := Tryz.sizeOf113
 v53 := Tryz.zeroValue113
 t171 := Tryz.underlying112
 a171 := Tryz.isAgg112
 z171 := Tryz.sizeOf112
 v171 := Tryz.zeroValue112
 t173 := Tryz.underlying116
 a173 := Tryz.isAgg116
 z173 := Tryz.sizeOf116
 v173 := Tryz.zeroValue116
 t212 := Tryz.underlying123
 a212 := Tryz.isAgg123
 z212 := Tryz.sizeOf123
 v212 := Tryz.zeroValue123
 t213 := Tryz.underlying125
 a213 := Tryz.isAgg125
 z213 := Tryz.sizeOf125
 t232 := Tryz.underlying134
 a232 := Tryz.isAgg134
 z232 := Tryz.sizeOf134
 v232 := Tryz.zeroValue134
 t233 := Tryz.underlying135
 a233 := Tryz.isAgg135
 z233 := Tryz.sizeOf135
 v233 := Tryz.zeroValue135
 g17 := by kernel_rfl
 g18 := by kernel_rfl
 g19 := by kernel_rfl }
open Go.RowKit Go.Sort Go.Lib in
/-- THE ROAD WITHOUT THE TABLE: 0 <= i < 100: NO PREMISE ON THE WORLD, AND THE WORLD IS AS IT WAS: a row that keeps its argument in that range need list no table ('laid = []'). (LAID: no walk: one application.) -/
theorem Tryz.strconv_Itoa_small (i : Nat) (hi : i < 100) (w : World) :
  Calls Tryz.prog 75 #[.int .i64 i] w fun e w' => e = .returned (.string ⟨(Lib.decDigits i).toArray⟩) ∧ w' = w := Any.strconv_Itoa_small Tryz.lays171 i hi w
def Tryz.laysNm215_ren : Go.Shelf.Ren := ⟨fun | 15 => 107 | n => n, fun | 22 => 37 | 3 => 3 | 4 => 4 | n => n, fun | n => n⟩
theorem Tryz.laysNm215 : Go.Proofs.Lays2.n15 Tryz.prog Tryz.laysNm215_ren := {
 mixed := by kernel_rfl
 f15 := Tryz.func107.trans (congrArg some (by kernel_rfl))
 t3 := Tryz.underlying3
 a3 := Tryz.isAgg3
 z3 := Tryz.sizeOf3
 v3 := Tryz.zeroValue3
 t4 := Tryz.underlying4
 a4 := Tryz.isAgg4
 z4 := Tryz.sizeOf4
 v4 := Tryz.zeroValue4
 t22 := Tryz.underlying37
 a22 := Tryz.isAgg37
 z22 := Tryz.sizeOf37
 v22 := Tryz.zeroValue37
 i3 := by kernel_rfl }
open Go.RowKit Go.Lib in
/-- slices.Clone at []int: "Clone returns a copy of the slice. The elements are copied using assignment, so this is a shallow clone. The result may have additional unused capacity. The result preserves the nilness of s.": OF A SLICE THAT IS NOT nil IT RETURNS A SLICE THAT IS NOT nil, OF THE SAME ELEMENTS, IN MEMORY OF THE CALL's OWN: in the how-to's words (6f): 'w'.ownsRow B e 1 v' n cells': v' begins at the head of a row among the blocks from B on (B: the heap's size at the call), not frozen, whose first cells are the elements · 'Below B w w'': below B all is as it was. The capacity is whatever the run-time gives. 'zs': what the cells behind the slice's address hold; 'zs.take n': its elements. (LAID: no walk: one application.) -/
theorem Tryz.slices_Clone_int (b off n c : Nat) (zs : List Int) (w : World) (hz : n ≤ zs.length) (hbig : n * 8 ≤ 140737488355328) (hc : ∀ j, j < zs.length → w.cell? ⟨b, off + j, none⟩ = some (.int .i64 (zs.getD j 0))) :
  Calls Tryz.prog 107 #[.slice (some ⟨b, off, none⟩) n c] w fun e w' => ∃ v', e = .returned v' ∧ w'.ownsRow w.heap.size 3 1 v' n ((zs.take n).map (Value.int .i64)) ∧ v' ≠ .slice none 0 0 ∧ Below w.heap.size w w' := Any.slices_Clone_int Tryz.laysNm215 b off n c zs w hz hbig hc
open Go.RowKit Go.Lib in
/-- The same at nil: nil comes back; the world is as it was. (LAID: no walk: one application.) -/
theorem Tryz.slices_Clone_int_nil (n c : Nat) (w : World) :
  Calls Tryz.prog 107 #[.slice none n c] w fun e w' => e = .returned (.slice none 0 0) ∧ w' = w := Any.slices_Clone_int_nil Tryz.laysNm215 n c w
open Go.RowKit Go.Lib in
/-- The same at a slice of length 0 that is not nil, WHATEVER ITS ADDRESS (no cell is asked for): a slice that is not nil and owns nothing comes back. (LAID: no walk: one application.) -/
theorem Tryz.slices_Clone_int_zero (a : Addr) (c : Nat) (w : World) :
  Calls Tryz.prog 107 #[.slice (some a) 0 c] w fun e w' => ∃ v', e = .returned v' ∧ w'.ownsRow w.heap.size 3 1 v' 0 [] ∧ v' ≠ .slice none 0 0 ∧ Below w.heap.size w w' := Any.slices_Clone_int_zero Tryz.laysNm215 a c w
end Go.Proofs
set_option linter.unusedSimpArgs false
set_option linter.unusedVariables false
set_option maxRecDepth 20000
set_option linter.unusedSectionVars false
namespace Go.Gl
open Go Go.Proofs
variable [Amb]
theorem strings_Join_c {m0 : Bool} (l : List (List UInt8)) (sep : List UInt8) (h1 : l.length ≤ 1099511627776) (h2 : (Lib.join l sep).length ≤ 1099511627776) :
  Fun Tryz.prog 41 [.sl (.lent m0) (List.map .str l), .str sep] [.str (Lib.join l sep)] := by
 refine Fun.of_plain Tryz.func41 rfl rfl rfl ?_
 intro w F G vs _ hv
 simp only [RepL] at hv
 obtain ⟨a, vs1, rfl, ha, b, vs2, rfl, hb, rfl⟩ := hv
 have hb := repP_str hb
 subst hb
 have e1 : (l.map fun s => (⟨s.toArray⟩ : ByteArray)).map (·.data.toList) = l := by simp [Function.comp_def]
 by_cases hl : l = []
 ·subst hl
  obtain ⟨a', cap, rfl⟩ := repP_nil ha
  exact (Tryz.strings_Join_none a' cap _ w).mono fun e w' h => ⟨h.1.trans (by simp [Lib.join]), h.2 ▸ Go.RowKit.Below.refl _ _⟩
 ·obtain ⟨B, off, cap, rfl, hc1, _, hB, hcells⟩ := rep_strs ha hl
  have := Tryz.strings_Join B off cap (l.map fun s => (⟨s.toArray⟩ : ByteArray)) ⟨sep.toArray⟩ w hcells hB (by simp; omega) (by simpa using hc1) (by rw [e1]; simp only; simpa using (by omega : (Lib.join l sep).length ≤ 140737488355328))
  rw [e1, List.length_map] at this
  simpa using this
--%reg strings.Join strings_Join_c _ _ ?_ ?_
end Go.Gl
set_option linter.unusedSimpArgs false
set_option linter.unusedVariables false
set_option maxRecDepth 20000
set_option linter.unusedSectionVars false
namespace Go.Gl
open Go Go.Proofs
variable [Amb]
/-- The marks: from k on, n of them. -/
def markL (n : Nat) (k : Int) : List Int := (List.range n).map fun i : Nat => k + (i : Int)
theorem markL_length {n : Nat} {k : Int} : (markL n k).length = n := by simp [markL]
theorem take_succ_iff {a b : List Int} {k : Nat} (ha : k < a.length) (hb : k < b.length) : a.take (k + 1) = b.take (k + 1) ↔ a.take k = b.take k ∧ a.getD k 0 = b.getD k 0 := by
 rw [List.take_add_one, List.take_add_one, List.getD_eq_getElem?_getD, List.getD_eq_getElem?_getD, List.getElem?_eq_getElem ha, List.getElem?_eq_getElem hb]
 simp only [Option.toList_some, Option.getD_some]
 constructor
 ·intro h
  have := List.append_inj h (by simp; omega)
  exact ⟨this.1, by simpa using this.2⟩
 ·rintro ⟨h1, h2⟩; rw [h1, h2]
theorem take_getD {α : Type} {l : List α} {i : Nat} {d : α} (h : i < l.length) : l.take (i + 1) = l.take i ++ [l.getD i d] := by
 rw [List.take_add_one, List.getD_eq_getElem?_getD, List.getElem?_eq_getElem h]; rfl
theorem mk_take {n : Nat} {k : Int} : List.take n (markL n k) = markL n k := by
 rw [List.take_of_length_le]; simp [markL_length]
attribute [go_sem] mk_take markL_length List.not_mem_nil List.mem_cons or_false
end Go.Gl
set_option linter.unusedSimpArgs false
set_option linter.unusedVariables false
set_option maxRecDepth 20000
set_option linter.unusedSectionVars false
namespace Go.Gl
open Go Go.Proofs
variable [Amb]
theorem dropL_at {α : Type} {l : List (List α)} {i : Nat} (h : i < l.length) : l.drop i = l.getD i [] :: l.drop (i + 1) := by
 rw [List.drop_eq_getElem_cons h, List.getD_eq_getElem?_getD, List.getElem?_eq_getElem h]; rfl
theorem getD_mem {α : Type} {l : List α} {i : Nat} {d : α} (h : i < l.length) : l.getD i d ∈ l := by
 rw [List.getD_eq_getElem?_getD, List.getElem?_eq_getElem h]; exact List.getElem_mem h
theorem takeL_succ_iff {α : Type} {a b : List (List α)} {k : Nat} (ha : k < a.length) (hb : k < b.length) : a.take (k + 1) = b.take (k + 1) ↔ a.take k = b.take k ∧ a.getD k [] = b.getD k [] := by
 rw [take_getD (d := []) ha, take_getD (d := []) hb]
 constructor
 ·intro h
  have := List.append_inj h (by simp; omega)
  exact ⟨this.1, by simpa using this.2⟩
 ·rintro ⟨h1, h2⟩; rw [h1, h2]
end Go.Gl
set_option linter.unusedSimpArgs false
set_option linter.unusedVariables false
set_option maxRecDepth 20000
set_option linter.unusedSectionVars false
namespace Go.Gl
open Go Go.Proofs
variable [Amb]
theorem permGo_mem {n : Int} : ∀ {p seen : List Int}, permGo n seen p = true → ∀ v ∈ p, 1 ≤ v ∧ v ≤ n
 | [], _, _, v, h => by simp at h
 | w :: p, seen, h, v, hv => by
  simp only [permGo, Bool.and_eq_true, decide_eq_true_eq] at h
  rcases List.mem_cons.1 hv with rfl | hv
  ·exact ⟨h.1.1.1, h.1.1.2⟩
  ·exact permGo_mem h.2 v hv
theorem perm_at {p : List Int} (h : permB p = true) {i : Nat} (hi : i < p.length) : 1 ≤ p.getD i 0 ∧ p.getD i 0 ≤ p.length := by
 have := permGo_mem h (p.getD i 0) (by rw [List.getD_eq_getElem?_getD, List.getElem?_eq_getElem hi]; simp)
 exact this
theorem isPerm_facts {p : List Int} (h : isPermB p = true) : p.length ≤ 8 ∧ permB p = true := by
 simp only [isPermB, Bool.and_eq_true, decide_eq_true_eq] at h; exact h
/-- A digit's letter. -/
def chI (v : Int) : UInt8 := UInt8.ofNat (48 + v).toNat
/-- The digits of a number, in front of others. -/
def dgN : Nat → Nat → List UInt8 → List UInt8
 | 0, _, acc => acc
 | f + 1, m, acc => if m = 0 then acc else dgN f (m / 10) (chI ((m % 10 : Nat) : Int) :: acc)
theorem dgN_step {f m : Nat} {acc : List UInt8} (h : m ≠ 0) : dgN (f + 1) m acc = dgN f (m / 10) (chI ((m % 10 : Nat) : Int) :: acc) := by rw [dgN, if_neg h]
theorem dgN_fuel : ∀ {f g m : Nat} {acc : List UInt8}, m < 2 ^ f → m < 2 ^ g → dgN f m acc = dgN g m acc
 | 0, 0, m, acc, _, _ => rfl
 | 0, g + 1, m, acc, h, _ => by
  have : m = 0 := by simp at h; omega
  subst this; rw [dgN, dgN, if_pos rfl]
 | f + 1, 0, m, acc, _, h => by
  have : m = 0 := by simp at h; omega
  subst this; rw [dgN, dgN, if_pos rfl]
 | f + 1, g + 1, m, acc, h, h' => by
  rw [dgN, dgN]
  split
  ·rfl
  ·exact dgN_fuel (by rw [Nat.pow_succ] at h; omega) (by rw [Nat.pow_succ] at h'; omega)
def digs (m : Nat) (acc : List UInt8) : List UInt8 := dgN 64 m acc
theorem digs_0 {acc : List UInt8} : digs 0 acc = acc := by rw [digs, dgN, if_pos rfl]
theorem digs_step {m : Nat} {acc : List UInt8} (h : m ≠ 0) (hb : m < 9223372036854775809) : digs m acc = digs (m / 10) (chI ((m % 10 : Nat) : Int) :: acc) := by
 rw [digs, dgN_step h, digs]; exact dgN_fuel (by omega) (by omega)
def fmtI (n : Int) : List UInt8 := if n = 0 then [48] else if n < 0 then 45 :: digs n.natAbs [] else digs n.natAbs []
theorem w_conv2 {P : Program} {sg : FuncId → List Bool} {h : Nat → Blk} {k : Nat} {ρ : Operand → AV} {C : R → Prop} {t t' : TypeId} {x : Operand} : opB P sg ρ h k (.convert t t' x) C = convW P t t' k h (ρ x) C := _root_.id rfl
attribute [local go_sem ↓] w_conv2
theorem tdm10 (x : Int) : x = 10 * x.tdiv 10 + x.tmod 10 ∧ (0 ≤ x → 0 ≤ x.tmod 10 ∧ x.tmod 10 ≤ 9) ∧ (x ≤ 0 → -9 ≤ x.tmod 10 ∧ x.tmod 10 ≤ 0) := by
 refine ⟨by have := Int.mul_tdiv_add_tmod x 10; omega, fun h => ?_, fun h => ?_⟩
 ·rw [Int.tmod_eq_emod_of_nonneg h]; omega
 ·have e : x.tmod 10 = -((-x).tmod 10) := by rw [Int.neg_tmod, Int.neg_neg]
  rw [e, Int.tmod_eq_emod_of_nonneg (by omega)]; omega
theorem pow_step {a b l : Nat} (h : 10 * b ≤ a) (hb : a * 10 ^ l ≤ 9223372036854775808) : b * 10 ^ (l + 1) ≤ 9223372036854775808 := by
 refine Nat.le_trans ?_ hb
 rw [Nat.pow_succ, Nat.mul_comm (10 ^ l) 10, ← Nat.mul_assoc, Nat.mul_comm b 10]
 exact Nat.mul_le_mul_right _ h
theorem ten19 : (10 : Nat) ^ 19 = 10000000000000000000 := by decide
theorem spec_FormatInt_c (n : Int) (h0 : -9223372036854775808 ≤ n) (h1 : n ≤ 9223372036854775807) : Fun Tryz.prog 27 [(.int .i64 (n))] [(.str (fmtI n))] := by
 refine fO sg0 [2] Tryz.func27 ?_
 have u3 : (Tryz.prog.underlying 3).isSome = true := by kernel_rfl
 refine dE trivial ?_
 all_goals try (refine zlf ?_; repeat' first | exact zso | refine And.intro ?_ ?_ | (refine zim ?_; intro zb hc) | (refine zin ?_; intro zb) | intro j')
 all_goals try refine zbx ?_
 ·rw [hc]; rfl
 ·refine v_loopB (fun ms1 S1 => ∃ (x : Int) (s : List UInt8), S1.e 0 = .p (.int .i64 (x)) ∧ S1.e 3 = .p (.bool (decide (n < 0))) ∧ S1.e 4 = .p (.str (s)) ∧ (-9223372036854775808 ≤ x) ∧ (x ≤ 9223372036854775807) ∧ (digs x.natAbs s = digs n.natAbs []) ∧ (x.natAbs * 10 ^ s.length ≤ 9223372036854775808) ∧ (s.length ≤ 19) ∧ (n < 0 → x ≤ 0) ∧ (0 < n → 0 ≤ x) ∧ ms1 = x.natAbs) ((fun (x : Int) (s : List UInt8) => x.natAbs) (n) ([])) ?_ ⟨n, [], dI trivial ?_⟩
  all_goals try (refine zlf ?_; repeat' first | exact zso | refine And.intro ?_ ?_ | (refine zim ?_; intro zb hc) | (refine zin ?_; intro zb) | intro j')
  all_goals try refine zbx ?_
  rintro ms1 S1 ⟨x, s, h1_0, h1_3, h1_4, c1_0, c1_1, c1_2, c1_3, c1_4, c1_5, c1_6, hm1⟩
  have fL1 := (And.intro h1_0 (And.intro h1_3 h1_4))
  have t1 := tdm10 x
  have t2 : x ≠ 0 → s.length ≤ 18 := fun hx => by
   by_cases h : s.length ≤ 18
   ·exact h
   ·have h2 : s.length = 19 := by omega
    rw [h2, ten19] at c1_3; omega
  refine dE (And.intro fL1 @u3) ?_
  all_goals try (refine zlf ?_; repeat' first | exact zso | refine And.intro ?_ ?_ | (refine zim ?_; intro zb hc) | (refine zin ?_; intro zb) | intro j')
  all_goals try refine zbx ?_
  all_goals try (rw [n_i64]; omega)
  all_goals try (rw [n_u8]; omega)
  all_goals try exact zaut
  ·focus
    refine q_lp_n ((fun (x : Int) (s : List UInt8) => x.natAbs) (x.tdiv 10) (chI (0 - x.tmod 10) :: s)) (dC fL1 ?_) ⟨x.tdiv 10, chI (0 - x.tmod 10) :: s, dC fL1 ?_⟩
    all_goals try (refine zlf ?_; repeat' first | exact zso | refine And.intro ?_ ?_ | (refine zim ?_; intro zb hc) | (refine zin ?_; intro zb) | intro j')
    all_goals try refine zbx ?_
   all_goals try omega
   ·rw [← c1_2, digs_step (m := x.natAbs) (by omega) (by omega)]
    have e1 : x.natAbs / 10 = (x.tdiv 10).natAbs := by omega
    have e2 : ((x.natAbs % 10 : Nat) : Int) = 0 - x.tmod 10 := by omega
    rw [e1, e2]
   ·exact pow_step (by omega) c1_3
  ·focus
    refine q_lp_n ((fun (x : Int) (s : List UInt8) => x.natAbs) (x.tdiv 10) (chI (x.tmod 10) :: s)) (dC fL1 ?_) ⟨x.tdiv 10, chI (x.tmod 10) :: s, dC fL1 ?_⟩
    all_goals try (refine zlf ?_; repeat' first | exact zso | refine And.intro ?_ ?_ | (refine zim ?_; intro zb hc) | (refine zin ?_; intro zb) | intro j')
    all_goals try refine zbx ?_
   all_goals try omega
   ·rw [← c1_2, digs_step (m := x.natAbs) (by omega) (by omega)]
    have e1 : x.natAbs / 10 = (x.tdiv 10).natAbs := by omega
    have e2 : ((x.natAbs % 10 : Nat) : Int) = x.tmod 10 := by omega
    rw [e1, e2]
   ·exact pow_step (by omega) c1_3
  ·obtain rfl : x = 0 := by omega
   rw [fmtI, if_neg (by omega), if_pos (by omega), ← c1_2, Int.natAbs_zero, digs_0]
  ·obtain rfl : x = 0 := by omega
   rw [fmtI, if_neg (by omega), if_neg (by omega), ← c1_2, Int.natAbs_zero, digs_0]
theorem join_step {l : List (List UInt8)} {sep : List UInt8} {k : Nat} (hk : k < l.length) : Lib.join (l.take (k + 1)) sep = (if k = 0 then [] else Lib.join (l.take k) sep ++ sep) ++ l.getD k [] := by
 match l, k, hk with
 | x :: r, 0, _ => simp [Lib.join_one]
 | x :: r, k + 1, hk =>
  have hk' : k < r.length := by simpa using hk
  rw [List.take_succ_cons, List.take_succ_cons, Lib.join_cons, Lib.join_cons, Lib.joinTail_take_succ sep r k (r.getD k []) (by rw [List.getD_eq_getElem?_getD, List.getElem?_eq_getElem hk']; rfl)]
  simp
theorem join_take_le {l : List (List UInt8)} {sep : List UInt8} {k : Nat} : (Lib.join (l.take k) sep).length ≤ (Lib.join l sep).length := by
 match l, k with
 | [], k => simp
 | x :: r, 0 => simp [Lib.join_nil]
 | x :: r, k + 1 =>
  rw [List.take_succ_cons, Lib.join_cons, Lib.join_cons, List.length_append, List.length_append]
  have := Lib.joinTail_take_le sep r k
  omega
theorem join_len_le {n : Nat} {sep : List UInt8} : ∀ {l : List (List UInt8)}, (∀ x ∈ l, x.length ≤ n) → (Lib.join l sep).length ≤ l.length * (n + sep.length) := by
 intro l
 have key : ∀ {l : List (List UInt8)}, (∀ x ∈ l, x.length ≤ n) → (Lib.joinTail sep l).length ≤ l.length * (n + sep.length) := by
  intro l
  induction l with
  | nil => intro _; simp [Lib.joinTail]
  | cons x r ih =>
   intro h
   have h1 := ih fun y hy => h y (by simp [hy])
   have h2 := h x (by simp)
   have e : (Lib.joinTail sep (x :: r)) = sep ++ x ++ Lib.joinTail sep r := by simp [Lib.joinTail]
   rw [e, List.length_append, List.length_append, List.length_cons, Nat.succ_mul]; omega
 cases l with
 | nil => intro _; simp [Lib.join_nil]
 | cons x r =>
  intro h
  have h1 := key (l := r) fun y hy => h y (by simp [hy])
  have h2 := h x (by simp)
  rw [Lib.join_cons, List.length_append, List.length_cons, Nat.succ_mul]; omega
theorem u8s_fold {s : List UInt8} : List.map (fun b : UInt8 => PV.int .u8 (b.toNat : Int)) s = List.map u8P s := _root_.id rfl
attribute [local go_sem] u8s_fold
theorem spec_Join_c {m0 : Bool} (l : List (List UInt8)) (sep : List UInt8) (h1 : l.length ≤ 1099511627776) (h2 : (Lib.join l sep).length ≤ 1099511627776) : Fun Tryz.prog 52 [(.sl (.lent m0) (List.map PV.str (l))), (.str (sep))] [(.str (Lib.join l sep))] := by
 refine fO sg0 [4] Tryz.func52 ?_
 refine dE trivial ?_
 all_goals try (refine zlf ?_; repeat' first | exact zso | refine And.intro ?_ ?_ | (refine zim ?_; intro zb hc) | (refine zin ?_; intro zb) | intro j')
 all_goals try refine zbx ?_
 refine v_loopB (fun ms1 S1 => ∃ (k : Nat), S1.e 0 = .p (.sl (.lent m0) (List.map PV.str (l))) ∧ S1.e 1 = .p (.str (sep)) ∧ OwnL (S1.e 5) S1.h S1.n u8P ((Lib.join (l.take k) sep).length) (Lib.join (l.take k) sep) ∧ S1.e 6 = .p (.int .i64 (k)) ∧ (k ≤ l.length) ∧ ms1 = l.length - k) ((fun (k : Nat) => l.length - k) (0)) ?_ ⟨0, dIa trivial ?_⟩
 all_goals try (refine zlf ?_; repeat' first | exact zso | refine And.intro ?_ ?_ | (refine zim ?_; intro zb hc) | (refine zin ?_; intro zb) | intro j')
 all_goals try refine zbx ?_
 rintro ms1 S1 ⟨k, h1_0, h1_1, o1_5, h1_6, c1_0, hm1⟩
 obtain ⟨i1_5, h1_5, b1_5, l1_5⟩ := o1_5.out
 have ni1_5 := znds (x := i1_5) (n := S1.n)
 have fL1 := (And.intro h1_0 (And.intro h1_1 (And.intro h1_6 (And.intro h1_5 (And.intro b1_5 ni1_5)))))
 have b2 := join_take_le (l := l) (sep := sep) (k := k + 1)
 have b1 : k < l.length → 0 < k → (Lib.join (l.take k) sep).length + (sep.length + (l.getD k []).length) ≤ 1099511627776 := fun h h0 => by
  rw [join_step h, if_neg (by omega)] at b2; simp only [List.length_append] at b2; omega
 have b0 : k < l.length → k = 0 → (Lib.join (l.take k) sep).length + (l.getD k []).length ≤ 1099511627776 := fun h h0 => by
  subst h0; rw [join_step h, if_pos rfl] at b2; simp [Lib.join_nil] at b2 ⊢; omega
 refine dEa (And.intro fL1 (And.intro @c_la @Nat.add_assoc)) ?_
 all_goals try (refine zlf ?_; repeat' first | exact zso | refine And.intro ?_ ?_ | (refine zim ?_; intro zb hc) | (refine zin ?_; intro zb) | intro j')
 all_goals try refine zbx ?_
 ·focus
   refine q_lp_n ((fun (k : Nat) => l.length - k) (k+1)) (dC fL1 ?_) ⟨k+1, dC fL1 ?_⟩
   all_goals try (refine zlf ?_; repeat' first | exact zso | refine And.intro ?_ ?_ | (refine zim ?_; intro zb hc) | (refine zin ?_; intro zb) | intro j')
   all_goals try refine zbx ?_
  all_goals (rw [join_step (by omega), if_neg (by omega)]; simp only [List.length_append, List.append_assoc, Nat.add_assoc])
 ·focus
   refine q_lp_n ((fun (k : Nat) => l.length - k) (k+1)) (dC fL1 ?_) ⟨k+1, dC fL1 ?_⟩
   all_goals try (refine zlf ?_; repeat' first | exact zso | refine And.intro ?_ ?_ | (refine zim ?_; intro zb hc) | (refine zin ?_; intro zb) | intro j')
   all_goals try refine zbx ?_
  all_goals (obtain rfl : k = 0 := by omega)
  all_goals (rw [join_step (by omega), if_pos rfl]; simp [Lib.join_nil])
 ·rw [List.take_of_length_le (by omega)]
end Go.Gl
set_option linter.unusedSimpArgs false
set_option linter.unusedVariables false
set_option maxRecDepth 20000
set_option linter.unusedSectionVars false
namespace Go.Gl
open Go Go.Proofs
variable [Amb]
/-- The table of powers of ten stands where the library looks for it. -/
class TabA [Amb] : Prop where
 has : ∀ w : World, (∀ B o, Amb.tb B = some o → w.heap[B]? = some o) → Lib.TabIs Tryz.prog w "internal/strconv.uint64pow10" .u64 Lib.pow10Tab
variable [TabA]
theorem digs_dec : ∀ (m : Nat) (acc : List UInt8), m ≠ 0 → m < 9223372036854775809 → digs m acc = Lib.decDigits m ++ acc := by
 intro m
 induction m using Nat.strongRecOn with
 | _ m ih =>
  intro acc h hb
  rw [digs_step h hb, Lib.decDigits]
  have e : chI ((m % 10 : Nat) : Int) = UInt8.ofNat (48 + m % 10) := by unfold chI; congr 1
  split
  ·rw [show m / 10 = 0 by omega, digs_0, e, show m % 10 = m by omega]; rfl
  ·rw [ih (m / 10) (by omega) _ (by omega) (by omega), e, List.append_assoc]; rfl
theorem fmtI_itoa {n : Int} (h0 : -9223372036854775808 ≤ n) (h1 : n ≤ 9223372036854775807) : Lib.itoa n = fmtI n := by
 unfold Lib.itoa fmtI
 by_cases hz : n = 0
 ·subst hz; rw [if_neg (by omega), if_pos rfl, Lib.decDigits, dif_pos (by omega)]; rfl
 ·rw [if_neg hz]
  by_cases hn : n < 0
  ·rw [if_pos hn, if_pos hn, digs_dec _ _ (by omega) (by omega), List.append_nil]
  ·rw [if_neg hn, if_neg hn, digs_dec _ _ (by omega) (by omega), List.append_nil, show n.toNat = n.natAbs by omega]
theorem fmtI_len {n : Int} (h0 : -9223372036854775808 ≤ n) (h1 : n ≤ 9223372036854775807) : (fmtI n).length ≤ 21 := by
 rw [← fmtI_itoa h0 h1]; exact Lib.itoa_length_le n h0 h1
theorem strconv_Itoa_c (n : Int) (h0 : -9223372036854775808 ≤ n) (h1 : n ≤ 9223372036854775807) : Fun Tryz.prog 75 [.int .i64 n] [.str (fmtI n)] := by
 refine Fun.of_plain Tryz.func75 rfl rfl rfl ?_
 intro w F G vs hamb hv
 simp only [RepL] at hv
 obtain ⟨a, vs1, rfl, ha, rfl⟩ := hv
 have ha := repP_i ha
 subst ha
 refine (Tryz.strconv_Itoa n h0 h1 w (TabA.has w hamb)).mono fun e w' h => ?_
 obtain ⟨he, k, os, hw⟩ := h
 subst hw
 exact ⟨by rw [he, fmtI_itoa h0 h1], Lib.below_grow _ _ (Nat.le_refl _) k os⟩
--%reg strconv.Itoa strconv_Itoa_c _ ?_ ?_
theorem impl_FormatInt_c (n : Int) (h0 : -9223372036854775808 ≤ n) (h1 : n ≤ 9223372036854775807) : Fun Tryz.prog 37 [(.int .i64 (n))] [(.str (fmtI n))] := by
 refine fO sg0 [2] Tryz.func37 ?_
 have cE1 := @strconv_Itoa_c
 refine dEa trivial ?_
 all_goals try (refine zlf ?_; repeat' first | exact zso | refine And.intro ?_ ?_ | (refine zim ?_; intro zb hc) | (refine zin ?_; intro zb) | intro j')
 all_goals try refine zbx ?_
def fmtL (l : List Int) : List (List UInt8) := l.map fmtI
theorem fmtL_take {l : List Int} {k : Nat} : fmtL (l.take k) = (fmtL l).take k := by simp [fmtL, List.map_take]
def numT (l : List Int) : List UInt8 := if l = [] then [45] else Lib.join (fmtL l) [44]
theorem fmtL_len {l : List Int} (hb : ∀ x ∈ l, -9223372036854775808 ≤ x ∧ x ≤ 9223372036854775807) : (Lib.join (fmtL l) [44]).length ≤ l.length * 22 := by
 have := join_len_le (n := 21) (sep := [44]) (l := fmtL l) (fun x hx => by
  obtain ⟨y, hy, rfl⟩ := List.mem_map.1 hx
  exact fmtI_len (hb y hy).1 (hb y hy).2)
 simpa [fmtL] using this
theorem numT_len {l : List Int} (hb : ∀ x ∈ l, -9223372036854775808 ≤ x ∧ x ≤ 9223372036854775807) : (numT l).length ≤ l.length * 22 + 1 := by
 unfold numT; split
 ·simp
 ·have := fmtL_len hb; omega
theorem spec_l35Text_c {m0 : Bool} (l : List Int) (hl : l.length ≤ 1048576) (hb : ∀ x ∈ l, -9223372036854775808 ≤ x ∧ x ≤ 9223372036854775807) : Fun Tryz.prog 23 [(.sl (.lent m0) (List.map (PV.int .i64) (l)))] [(.str (Lib.join (fmtL l) [44]))] := by
 refine fO sg0 [2] Tryz.func23 ?_
 have cE1 := @spec_FormatInt_c; have cE2 := @spec_Join_c
 have b9 := fmtL_len hb
 have b8 : (fmtL l).length = l.length := by simp [fmtL]
 refine dE trivial ?_
 all_goals try (refine zlf ?_; repeat' first | exact zso | refine And.intro ?_ ?_ | (refine zim ?_; intro zb hc) | (refine zin ?_; intro zb) | intro j')
 all_goals try refine zbx ?_
 refine v_loopB (fun ms1 S1 => ∃ (k : Nat), S1.e 0 = .p (.sl (.lent m0) (List.map (PV.int .i64) (l))) ∧ OwnL (S1.e 3) S1.h S1.n PV.str ((fmtL (l.take k)).length) (fmtL (l.take k)) ∧ S1.e 4 = .p (.int .i64 (k)) ∧ (k ≤ l.length) ∧ ms1 = l.length - k) ((fun (k : Nat) => l.length - k) (0)) ?_ ⟨0, dIa trivial ?_⟩
 all_goals try (refine zlf ?_; repeat' first | exact zso | refine And.intro ?_ ?_ | (refine zim ?_; intro zb hc) | (refine zin ?_; intro zb) | intro j')
 all_goals try refine zbx ?_
 rintro ms1 S1 ⟨k, h1_0, o1_3, h1_4, c1_0, hm1⟩
 obtain ⟨i1_3, h1_3, b1_3, l1_3⟩ := o1_3.out
 have ni1_3 := znds (x := i1_3) (n := S1.n)
 have fL1 := (And.intro h1_0 (And.intro h1_4 (And.intro h1_3 (And.intro b1_3 ni1_3))))
 have b7 : (fmtL (l.take k)).length = k := by simp [fmtL]; omega
 have b6 := join_take_le (l := fmtL l) (sep := [44]) (k := k)
 rw [← fmtL_take] at b6
 have q : k < l.length → -9223372036854775808 ≤ l.getD k 0 ∧ l.getD k 0 ≤ 9223372036854775807 := fun h => hb _ (getD_mem h)
 refine dEa fL1 ?_
 all_goals try (refine zlf ?_; repeat' first | exact zso | refine And.intro ?_ ?_ | (refine zim ?_; intro zb hc) | (refine zin ?_; intro zb) | intro j')
 all_goals try refine zbx ?_
 ·focus
   refine q_lp_n ((fun (k : Nat) => l.length - k) (k+1)) (dC fL1 ?_) ⟨k+1, dC fL1 ?_⟩
   all_goals try (refine zlf ?_; repeat' first | exact zso | refine And.intro ?_ ?_ | (refine zim ?_; intro zb hc) | (refine zin ?_; intro zb) | intro j')
   all_goals try refine zbx ?_
  all_goals simp [fmtL, take_getD (d := 0) (show k < l.length by omega)]
 all_goals (rw [List.take_of_length_le (by omega)])
theorem numT_nil {l : List Int} (h : (l.length : Int) = 0) : numT l = [45] := by rw [numT, if_pos (List.eq_nil_of_length_eq_zero (by omega))]
theorem numT_cons {l : List Int} (h : ¬ (l.length : Int) = 0) : numT l = Lib.join (fmtL l) [44] := by rw [numT, if_neg (by rintro rfl; exact h rfl)]
theorem impl_NumbersText_c {m0 : Bool} (l : List Int) (hl : l.length ≤ 1048576) (hb : ∀ x ∈ l, -9223372036854775808 ≤ x ∧ x ≤ 9223372036854775807) : Fun Tryz.prog 33 [(.sl (.lent m0) (List.map (PV.int .i64) (l)))] [(.str (numT l))] := by
 refine fO sg0 [2] Tryz.func33 ?_
 have cE1 := @impl_FormatInt_c; have cE2 := @strings_Join_c
 have b9 := fmtL_len hb
 have b8 : (fmtL l).length = l.length := by simp [fmtL]
 refine dEa trivial ?_
 all_goals try (refine zlf ?_; repeat' first | exact zso | refine And.intro ?_ ?_ | (refine zim ?_; intro zb hc) | (refine zin ?_; intro zb) | intro j')
 all_goals try refine zbx ?_
 ·rw [numT_nil hc]
 ·have hn := hc
  rw [numT_cons hc]
  refine v_loopB (fun ms1 S1 => ∃ (k : Nat), S1.e 10 = .p (.sl (.lent m0) (List.map (PV.int .i64) (l))) ∧ OwnL (S1.e 3) S1.h S1.n PV.str ((fmtL (l.take k)).length) (fmtL (l.take k)) ∧ S1.e 11 = .p (.int .i64 (l.length)) ∧ S1.e 12 = .p (.int .i64 (k)) ∧ (k ≤ l.length) ∧ ms1 = l.length - k) ((fun (k : Nat) => l.length - k) (0)) ?_ ⟨0, dIa trivial ?_⟩
  all_goals try (refine zlf ?_; repeat' first | exact zso | refine And.intro ?_ ?_ | (refine zim ?_; intro zb hc) | (refine zin ?_; intro zb) | intro j')
  all_goals try refine zbx ?_
  rintro ms1 S1 ⟨k, h1_10, o1_3, h1_11, h1_12, c1_0, hm1⟩
  obtain ⟨i1_3, h1_3, b1_3, l1_3⟩ := o1_3.out
  have ni1_3 := znds (x := i1_3) (n := S1.n)
  have fL1 := (And.intro h1_10 (And.intro h1_11 (And.intro h1_12 (And.intro h1_3 (And.intro b1_3 ni1_3)))))
  have b7 : (fmtL (l.take k)).length = k := by simp [fmtL]; omega
  have b6 := join_take_le (l := fmtL l) (sep := [44]) (k := k)
  rw [← fmtL_take] at b6
  have q : k < l.length → -9223372036854775808 ≤ l.getD k 0 ∧ l.getD k 0 ≤ 9223372036854775807 := fun h => hb _ (getD_mem h)
  refine dEa fL1 ?_
  all_goals try (refine zlf ?_; repeat' first | exact zso | refine And.intro ?_ ?_ | (refine zim ?_; intro zb hc) | (refine zin ?_; intro zb) | intro j')
  all_goals try refine zbx ?_
  ·focus
    refine q_lp_n ((fun (k : Nat) => l.length - k) (k+1)) (dC fL1 ?_) ⟨k+1, dC fL1 ?_⟩
    all_goals try (refine zlf ?_; repeat' first | exact zso | refine And.intro ?_ ?_ | (refine zim ?_; intro zb hc) | (refine zin ?_; intro zb) | intro j')
    all_goals try refine zbx ?_
   all_goals simp [fmtL, take_getD (d := 0) (show k < l.length by omega)]
  all_goals (rw [List.take_of_length_le (by omega)])
end Go.Gl
set_option linter.unusedSimpArgs false
set_option linter.unusedVariables false
set_option maxRecDepth 20000
set_option linter.unusedSectionVars false
namespace Go.Gl
open Go Go.Proofs
variable [Amb]
def idxP (p : Int → Bool) : List Int → Nat → Int
 | [], _ => -1
 | x :: l, i => if p x then i else idxP p l (i + 1)
theorem idxP_any {p : Int → Bool} : ∀ {l : List Int} {i : Nat}, decide (0 ≤ idxP p l i) = l.any p
 | [], _ => rfl
 | x :: l, i => by
  rw [idxP, List.any_cons]
  split
  ·rename_i h; rw [h, Bool.true_or]; exact decide_eq_true (by omega)
  ·rename_i h; rw [idxP_any, Bool.eq_false_iff.2 h, Bool.false_or]
end Go.Gl
set_option linter.unusedSimpArgs false
set_option linter.unusedVariables false
set_option maxRecDepth 20000
set_option linter.unusedSectionVars false
namespace Go.Gl
open Go Go.Proofs
variable [Amb]
theorem slices_Clone_c {m0 : Bool} (l : List Int) (hl : l.length ≤ 1099511627776) :
  Fun Tryz.prog 107 [.sl (.lent m0) (List.map (.int .i64) l)] [.sl .own (List.map (.int .i64) l)] := by
 refine Fun.of_row 3 Tryz.func107 rfl rfl nrL_int (by intro x hx; rw [List.mem_map] at hx; obtain ⟨_, _, rfl⟩ := hx; rfl) ?_
 intro w F G vs _ hv
 simp only [RepL] at hv
 obtain ⟨a, vs1, rfl, ha, rfl⟩ := hv
 have e1 : (l.map (PV.int .i64)).map pvV = l.map (Value.int .i64) := by simp [Function.comp_def, pvV, plV]
 simp only [RepP] at ha
 obtain ⟨a, cap, rfl, h1, h2, ho, h3⟩ := ha
 rw [e1, List.length_map] at *
 by_cases hn : a = none
 ·subst hn
  have hl0 : l = [] := by
   rcases h3 with h3 | ⟨B, off, h3, _⟩
   ·simpa using h3
   ·cases h3
  subst hl0
  exact (Tryz.slices_Clone_int_nil _ _ w).mono fun e w' h => ⟨_, h.1, ⟨by simp, .inl ⟨rfl, rfl⟩⟩, h.2 ▸ Go.RowKit.Below.refl _ _⟩
 ·obtain ⟨ad, rfl⟩ : ∃ ad, a = some ad := by cases a with | none => exact absurd rfl hn | some ad => exact ⟨ad, rfl⟩
  by_cases hl0 : l = []
  ·subst hl0
   exact (Tryz.slices_Clone_int_zero ad cap w).mono fun e w' ⟨v, hv, hr, _, hw⟩ => ⟨v, hv, hr, hw⟩
  ·rcases h3 with h3 | ⟨B, off, h3, _, _, hc⟩
   ·simp at h3; exact absurd h3 hl0
   ·cases h3
    rw [RepC_iff] at hc
    have := Tryz.slices_Clone_int B off l.length cap l w (Nat.le_refl _) (by omega) (fun j hj => by
     obtain ⟨u, hu, _, hr⟩ := hc j (.int .i64 (l.getD j 0)) (by rw [List.getElem?_map, List.getD_eq_getElem?_getD, List.getElem?_eq_getElem hj]; rfl)
     rw [repP_i hr] at hu; exact hu)
    rw [List.take_length] at this
    exact this.mono fun e w' ⟨v, hv, hr, _, hw⟩ => ⟨v, hv, hr, hw⟩
--%reg slices.Clone[[]int,int] slices_Clone_c _ ?_
theorem idxP_hit {p : Int → Bool} : ∀ {l : List Int} {k : Nat} {i : Nat}, k < l.length → (∀ j, j < k → p (l.getD j 0) = false) → p (l.getD k 0) = true → idxP p l i = i + k
 | [], k, i, h, _, _ => by simp at h
 | x :: l, 0, i, _, _, h => by simp at h; simp [idxP, h]
 | x :: l, k + 1, i, h, h1, h2 => by
  have h0 := h1 0 (by omega)
  simp only [List.getD_cons_zero] at h0
  rw [idxP, h0]
  simp only [Bool.false_eq_true, if_false]
  rw [idxP_hit (k := k) (by simpa using h) (fun j hj => by simpa using h1 (j + 1) (by omega)) (by simpa using h2)]
  push_cast; omega
theorem idxP_miss {p : Int → Bool} : ∀ {l : List Int} {i : Nat}, (∀ j, j < l.length → p (l.getD j 0) = false) → idxP p l i = -1
 | [], _, _ => rfl
 | x :: l, i, h => by
  have h0 := h 0 (by simp)
  simp only [List.getD_cons_zero] at h0
  rw [idxP, h0]
  simp only [Bool.false_eq_true, if_false]
  exact idxP_miss fun j hj => by simpa using h (j + 1) (by simp; omega)
theorem slices_Index_int_int_c {m0 : Bool} (l : List Int) (x : Int) (hl : l.length ≤ 1099511627776) : Fun Tryz.prog 144 [(.sl (.lent m0) (List.map (PV.int .i64) (l))), (.int .i64 (x))] [(.int .i64 (idxP (fun y => decide (x = y)) l 0))] := by
 refine fO sg0 [4] Tryz.func144 ?_
 refine dE trivial ?_
 all_goals try (refine zlf ?_; repeat' first | exact zso | refine And.intro ?_ ?_ | (refine zim ?_; intro zb hc) | (refine zin ?_; intro zb) | intro j')
 all_goals try refine zbx ?_
 refine v_loopB (fun ms1 S1 => ∃ (k : Nat), S1.e 0 = .p (.sl (.lent m0) (List.map (PV.int .i64) (l))) ∧ S1.e 1 = .p (.int .i64 (x)) ∧ S1.e 7 = .p (.int .i64 (l.length)) ∧ S1.e 8 = .p (.int .i64 (k)) ∧ (k ≤ l.length) ∧ (∀ j, j < k → decide (x = l.getD j 0) = false) ∧ ms1 = l.length - k) ((fun (k : Nat) => l.length - k) (0)) ?_ ⟨0, dIa trivial ?_⟩
 all_goals try (refine zlf ?_; repeat' first | exact zso | refine And.intro ?_ ?_ | (refine zim ?_; intro zb hc) | (refine zin ?_; intro zb) | intro j')
 all_goals try refine zbx ?_
 rintro ms1 S1 ⟨k, h1_0, h1_1, h1_7, h1_8, c1_0, c1_1, hm1⟩
 have fL1 := (And.intro h1_0 (And.intro h1_1 (And.intro h1_7 h1_8)))
 refine dEa fL1 ?_
 all_goals try (refine zlf ?_; repeat' first | exact zso | refine And.intro ?_ ?_ | (refine zim ?_; intro zb hc) | (refine zin ?_; intro zb) | intro j')
 all_goals try refine zbx ?_
 ·rw [idxP_hit (k := k) (by omega) c1_1 (by simpa using hc)]; push_cast; omega
 ·focus
   refine q_lp_n ((fun (k : Nat) => l.length - k) (k+1)) (dC fL1 ?_) ⟨k+1, dC fL1 ?_⟩
   all_goals try (refine zlf ?_; repeat' first | exact zso | refine And.intro ?_ ?_ | (refine zim ?_; intro zb hc) | (refine zin ?_; intro zb) | intro j')
   all_goals try refine zbx ?_
  intro j hj
  by_cases e : j = k
  ·subst e; simpa using hc
  ·exact c1_1 j (by omega)
 ·rw [idxP_miss fun j hj => c1_1 j (by omega)]
theorem slices_Contains_int_int_c {m0 : Bool} (l : List Int) (x : Int) (hl : l.length ≤ 1099511627776) : Fun Tryz.prog 130 [(.sl (.lent m0) (List.map (PV.int .i64) (l))), (.int .i64 (x))] [(.bool (l.contains x))] := by
 refine fO sg0 [4] Tryz.func130 ?_
 have cE1 := @slices_Index_int_int_c
 refine dEa trivial ?_
 all_goals try (refine zlf ?_; repeat' first | exact zso | refine And.intro ?_ ?_ | (refine zim ?_; intro zb hc) | (refine zin ?_; intro zb) | intro j')
 all_goals try refine zbx ?_
 rw [idxP_any, Bool.eq_iff_iff, List.any_eq_true, List.contains_iff_mem]
 constructor
 ·rintro ⟨y, hy, e⟩; rw [decide_eq_true_eq] at e; exact e ▸ hy
 ·intro h; exact ⟨x, h, decide_eq_true rfl⟩
end Go.Gl
set_option linter.unusedSimpArgs false
set_option linter.unusedVariables false
set_option maxRecDepth 20000
set_option linter.unusedSectionVars false
namespace Go.Gl
open Go Go.Proofs
variable [Amb]
/-- The numbers 1 to j that a list lacks. -/
def lackL (p : List Int) (j : Nat) : List Int := ((List.range j).map fun i : Nat => (i : Int) + 1).filter fun v => !p.contains v
theorem lackL_succ {p : List Int} {j : Nat} : lackL p (j + 1) = lackL p j ++ (if p.contains ((j : Int) + 1) then [] else [(j : Int) + 1]) := by
 simp only [lackL, List.range_succ, List.map_append, List.filter_append, List.map_cons, List.map_nil]
 congr 1
 rw [List.filter_cons]
 cases p.contains ((j : Int) + 1) <;> rfl
theorem lackL_len {p : List Int} {j : Nat} : (lackL p j).length ≤ j := by
 unfold lackL; exact Nat.le_trans (List.length_filter_le _ _) (by simp)
/-- A list with each of the lacking numbers behind it. -/
def extL (p : List Int) (j : Nat) : List (List Int) := (lackL p j).map fun v => p ++ [v]
theorem extL_succ {p : List Int} {j : Nat} : extL p (j + 1) = extL p j ++ (if p.contains ((j : Int) + 1) then [] else [p ++ [(j : Int) + 1]]) := by
 rw [extL, lackL_succ, List.map_append]; congr 1
 cases p.contains ((j : Int) + 1) <;> simp
theorem extL_len {p : List Int} {j : Nat} : (extL p j).length ≤ j := by simpa [extL] using lackL_len
def lvl (n : Nat) : Nat → List (List Int) → List (List Int)
 | 0, L => L
 | k + 1, L => lvl n k (L.flatMap fun p => extL p n)
theorem lvl_app {n : Nat} : ∀ {k : Nat} {A B : List (List Int)}, lvl n k (A ++ B) = lvl n k A ++ lvl n k B
 | 0, _, _ => rfl
 | k + 1, A, B => by simp only [lvl, List.flatMap_append, lvl_app]
theorem lvl_succ {n : Nat} : ∀ {k : Nat} {L : List (List Int)}, lvl n (k + 1) L = (lvl n k L).flatMap fun p => extL p n
 | 0, _ => rfl
 | k + 1, L => by rw [lvl, lvl_succ (k := k), ← lvl]
theorem lvl_nil {n : Nat} : ∀ {k : Nat}, lvl n k [] = []
 | 0 => rfl
 | k + 1 => by rw [lvl]; exact lvl_nil
theorem flat_len {n : Nat} : ∀ {L : List (List Int)}, (L.flatMap fun p => extL p n).length ≤ L.length * n
 | [] => by simp
 | p :: L => by
  have := flat_len (n := n) (L := L)
  have h1 := extL_len (p := p) (j := n)
  simp only [List.flatMap_cons, List.length_append, List.length_cons, Nat.succ_mul]; omega
theorem lvl_len {n : Nat} (hn : n ≤ 8) : ∀ {k : Nat} {L : List (List Int)}, (lvl n k L).length ≤ L.length * 8 ^ k
 | 0, L => by simp [lvl]
 | k + 1, L => by
  rw [lvl, Nat.pow_succ]
  refine Nat.le_trans (lvl_len hn) ?_
  have h1 := flat_len (n := n) (L := L)
  have h2 : L.length * n ≤ L.length * 8 := Nat.mul_le_mul_left _ hn
  calc _ ≤ (L.length * 8) * 8 ^ k := Nat.mul_le_mul_right _ (Nat.le_trans h1 h2)
   _ = _ := by rw [Nat.mul_assoc, Nat.mul_comm 8]
theorem lvl_row {n : Nat} : ∀ {k m : Nat} {L : List (List Int)}, (∀ l ∈ L, l.length = m) → ∀ l ∈ lvl n k L, l.length = m + k
 | 0, m, L, h, l, hl => by simpa [lvl] using h l hl
 | k + 1, m, L, h, l, hl => by
  rw [lvl] at hl
  have := lvl_row (k := k) (m := m + 1) (fun q hq => by
   simp only [List.mem_flatMap, extL, List.mem_map] at hq
   obtain ⟨p, hp, v, _, rfl⟩ := hq
   simp [h p hp]) l hl
  omega
/-- The permutations of a length, in order. -/
def permL (n : Nat) : List (List Int) := lvl n n [[]]
theorem permL_len {n : Nat} (hn : n ≤ 8) : (permL n).length ≤ 8 ^ 8 := by
 have h1 := lvl_len hn (k := n) (L := [[]])
 have h2 : 8 ^ n ≤ 8 ^ 8 := Nat.pow_le_pow_right (by omega) hn
 simp only [permL, List.length_singleton, Nat.one_mul] at h1 ⊢; omega
theorem permL_row {n : Nat} : ∀ l ∈ permL n, l.length = n := fun l hl => by
 have := lvl_row (m := 0) (by simp) l hl
 omega
theorem tk1 {α : Type} {l : List α} {x : α} : List.take (l.length + 1) (l ++ [x]) = l ++ [x] := List.take_of_length_le (by simp)
theorem lvl_b8 {n k : Nat} (hn : n ≤ 8) (hk : k ≤ 8) : (lvl n k [[]]).length ≤ 8 ^ 8 := by
 have h1 := lvl_len hn (k := k) (L := [[]])
 have h2 : 8 ^ k ≤ 8 ^ 8 := Nat.pow_le_pow_right (by omega) hk
 simp only [List.length_singleton, Nat.one_mul] at h1; omega
def sgNP : FuncId → List Bool := fun f => if f = 4294967297 then [true, false, false] else []
theorem sgNP_eq {f : FuncId} : sgNP f = if f = 4294967297 then [true, false, false] else [] := _root_.id rfl
theorem way_sgNP : wayE sgNP = false ∧ wayN sgNP = true ∧ wayS sgNP = false ∧ wayZ sgNP = false := ⟨rfl, rfl, rfl, rfl⟩
attribute [go_sem] sgNP_eq way_sgNP
theorem impl_perms_c (n : Nat) (h1 : n ≤ 8) : Fun Tryz.prog 108 [(.int .i64 (n))] [(.dl (List.map (List.map (PV.int .i64)) (permL n)))] := by
 refine fO sgNP [2] Tryz.func108 ?_
 have cE1 := @slices_Contains_int_int_c; have cE2 := @slices_Clone_c
 refine dE trivial ?_
 all_goals try (refine zlf ?_; repeat' first | exact zso | refine And.intro ?_ ?_ | (refine zim ?_; intro zb hc) | (refine zin ?_; intro zb) | intro j')
 all_goals try refine zbx ?_
 refine v_loopB (fun ms1 S1 => ∃ (i : Nat), S1.e 0 = .p (.int .i64 (n)) ∧ DwnL (S1.e 3) S1.h S1.n (PV.int .i64) ((lvl n i [[]]).length) (lvl n i [[]]) ∧ S1.e 10 = .p (.int .i64 (n)) ∧ S1.e 11 = .p (.int .i64 (i)) ∧ (i ≤ n) ∧ ms1 = n - i) ((fun (i : Nat) => n - i) (0)) ?_ ⟨0, dI trivial ?_⟩
 all_goals try (refine zlf ?_; repeat' first | exact zso | refine And.intro ?_ ?_ | (refine zim ?_; intro zb hc) | (refine zin ?_; intro zb) | intro j')
 all_goals try refine zbx ?_
 rintro ms1 S1 ⟨i, h1_0, o1_3, h1_10, h1_11, c1_0, hm1⟩
 obtain ⟨i1_3, h1_3, b1_3, l1_3⟩ := o1_3.out
 have ni1_3 := znds (x := i1_3) (n := S1.n)
 have fL1 := (And.intro h1_0 (And.intro h1_10 (And.intro h1_11 (And.intro h1_3 (And.intro b1_3 ni1_3)))))
 have b1 : (lvl n i [[]]).length ≤ 8 ^ 8 := lvl_b8 h1 (by omega)
 refine dE fL1 ?_
 all_goals try (refine zlf ?_; repeat' first | exact zso | refine And.intro ?_ ?_ | (refine zim ?_; intro zb hc) | (refine zin ?_; intro zb) | intro j')
 all_goals try refine zbx ?_
 refine v_loopB (fun ms2 S2 => ∃ (j : Nat), S2.e 0 = .p (.int .i64 (n)) ∧ DwnL (S2.e 14) S2.h S2.n (PV.int .i64) ((lvl n i [[]]).length) (lvl n i [[]]) ∧ DwnL (S2.e 4) S2.h S2.n (PV.int .i64) ((((lvl n i [[]]).take j).flatMap (fun p => extL p n)).length) (((lvl n i [[]]).take j).flatMap (fun p => extL p n)) ∧ S2.e 10 = .p (.int .i64 (n)) ∧ S2.e 11 = .p (.int .i64 (i)) ∧ S2.e 15 = .p (.int .i64 ((lvl n i [[]]).length)) ∧ S2.e 16 = .p (.int .i64 (j)) ∧ (j ≤ (lvl n i [[]]).length) ∧ NId (S2.e 4) (S2.e 14) ∧ S1.n ≤ S2.n ∧ ms2 = (lvl n i [[]]).length - j) ((fun (j : Nat) => (lvl n i [[]]).length - j) (0)) ?_ ⟨0, dIa fL1 ?_⟩
 all_goals try (refine zlf ?_; repeat' first | exact zso | refine And.intro ?_ ?_ | (refine zim ?_; intro zb hc) | (refine zin ?_; intro zb) | intro j')
 all_goals try refine zbx ?_
 rintro ms2 S2 ⟨j, h2_0, o2_14, o2_4, h2_10, h2_11, h2_15, h2_16, c2_0, u2_0, u2_1, hm2⟩
 obtain ⟨i2_14, h2_14, b2_14, l2_14⟩ := o2_14.out
 obtain ⟨i2_4, h2_4, b2_4, l2_4⟩ := o2_4.out
 have k2_0 := (u2_0).out h2_4 h2_14
 have ni2_14 := znds (x := i2_14) (n := S2.n)
 have ni2_4 := znds (x := i2_4) (n := S2.n)
 have di2_14i2_4 := zdne (x := i2_14) (y := i2_4)
 have fL2 := (And.intro h2_0 (And.intro h2_10 (And.intro h2_11 (And.intro h2_15 (And.intro h2_16 (And.intro h2_14 (And.intro b2_14 (And.intro h2_4 (And.intro b2_4 (And.intro ni2_14 (And.intro ni2_4 di2_14i2_4)))))))))))
 have b2 : ((lvl n i [[]]).take j).length ≤ 8 ^ 8 := by simp; omega
 have b3 := Nat.le_trans (flat_len (n := n) (L := (lvl n i [[]]).take j)) (Nat.mul_le_mul b2 h1)
 refine dEa fL2 ?_
 all_goals try (refine zlf ?_; repeat' first | exact zso | refine And.intro ?_ ?_ | (refine zim ?_; intro zb hc) | (refine zin ?_; intro zb) | intro j')
 all_goals try refine zbx ?_
 ·refine v_loopB (fun ms4 S4 => ∃ (v : Nat), S4.e 0 = .p (.int .i64 (n)) ∧ DwnL (S4.e 14) S4.h S4.n (PV.int .i64) ((lvl n i [[]]).length) (lvl n i [[]]) ∧ DwnL (S4.e 4) S4.h S4.n (PV.int .i64) ((((lvl n i [[]]).take j).flatMap (fun p => extL p n) ++ extL ((lvl n i [[]]).getD j []) v).length) (((lvl n i [[]]).take j).flatMap (fun p => extL p n) ++ extL ((lvl n i [[]]).getD j []) v) ∧ InnL (S4.e 6) (S4.e 14) (j) (((lvl n i [[]]).getD j []).length) ∧ S4.e 7 = .p (.int .i64 ((v + 1))) ∧ S4.e 10 = .p (.int .i64 (n)) ∧ S4.e 11 = .p (.int .i64 (i)) ∧ S4.e 15 = .p (.int .i64 ((lvl n i [[]]).length)) ∧ S4.e 16 = .p (.int .i64 (j)) ∧ (v ≤ n) ∧ (j < (lvl n i [[]]).length) ∧ NId (S4.e 4) (S4.e 14) ∧ S2.n ≤ S4.n ∧ ms4 = n - v) ((fun (v : Nat) => n - v) (0)) ?_ ⟨0, dIa fL2 ?_⟩
  all_goals try (refine zlf ?_; repeat' first | exact zso | refine And.intro ?_ ?_ | (refine zim ?_; intro zb hc) | (refine zin ?_; intro zb) | intro j')
  all_goals try refine zbx ?_
  rintro ms4 S4 ⟨v, h4_0, o4_14, o4_4, o4_6, h4_7, h4_10, h4_11, h4_15, h4_16, c4_0, c4_1, u4_0, u4_1, hm4⟩
  obtain ⟨i4_14, h4_14, b4_14, l4_14⟩ := o4_14.out
  obtain ⟨i4_4, h4_4, b4_4, l4_4⟩ := o4_4.out
  have h4_6 := (o4_6).out h4_14
  have k4_0 := (u4_0).out h4_4 h4_14
  have ni4_14 := znds (x := i4_14) (n := S4.n)
  have ni4_4 := znds (x := i4_4) (n := S4.n)
  have di4_14i4_4 := zdne (x := i4_14) (y := i4_4)
  have fL4 := (And.intro h4_6 (And.intro h4_0 (And.intro h4_7 (And.intro h4_10 (And.intro h4_11 (And.intro h4_15 (And.intro h4_16 (And.intro h4_14 (And.intro b4_14 (And.intro h4_4 (And.intro b4_4 (And.intro ni4_14 (And.intro ni4_4 di4_14i4_4)))))))))))))
  have b4 := extL_len (p := (lvl n i [[]]).getD j []) (j := v)
  have b5 : ((lvl n i [[]]).getD j []).length = 0 + i := lvl_row (by simp) _ (getD_mem c4_1)
  refine dEa fL4 ?_
  all_goals try (refine zlf ?_; repeat' first | exact zso | refine And.intro ?_ ?_ | (refine zim ?_; intro zb hc) | (refine zin ?_; intro zb) | intro j')
  all_goals try refine zbx ?_
  ·focus
    refine q_lp_n ((fun (v : Nat) => n - v) (v+1)) (dC fL4 ?_) ⟨v+1, dC fL4 ?_⟩
    all_goals try (refine zlf ?_; repeat' first | exact zso | refine And.intro ?_ ?_ | (refine zim ?_; intro zb hc) | (refine zin ?_; intro zb) | intro j')
    all_goals try refine zbx ?_
   all_goals (rw [extL_succ, hc, if_neg (by decide)] <;> simp only [List.append_assoc, List.length_append, List.length_cons, List.length_nil, Nat.add_assoc])
  ·focus
    refine q_lp_n ((fun (v : Nat) => n - v) (v+1)) (dC fL4 ?_) ⟨v+1, dC fL4 ?_⟩
    all_goals try (refine zlf ?_; repeat' first | exact zso | refine And.intro ?_ ?_ | (refine zim ?_; intro zb hc) | (refine zin ?_; intro zb) | intro j')
    all_goals try refine zbx ?_
   all_goals (rw [extL_succ, hc, if_pos rfl, List.append_nil])
  ·focus
    refine q_lp_n ((fun (j : Nat) => (lvl n i [[]]).length - j) (j+1)) (dC fL4 ?_) ⟨j+1, dC fL4 ?_⟩
    all_goals try (refine zlf ?_; repeat' first | exact zso | refine And.intro ?_ ?_ | (refine zim ?_; intro zb hc) | (refine zin ?_; intro zb) | intro j')
    all_goals try refine zbx ?_
   all_goals (obtain rfl : v = n := by omega)
   all_goals (rw [take_getD (d := []) (by omega), List.flatMap_append]; simp)
  ·simp [extL, lackL]
  ·simp [extL, lackL]
 ·focus
   refine q_lp_n ((fun (i : Nat) => n - i) (i+1)) (dC fL2 ?_) ⟨i+1, dC fL2 ?_⟩
   all_goals try (refine zlf ?_; repeat' first | exact zso | refine And.intro ?_ ?_ | (refine zim ?_; intro zb hc) | (refine zin ?_; intro zb) | intro j')
   all_goals try refine zbx ?_
  all_goals (rw [lvl_succ, List.take_of_length_le (by omega)])
 ·obtain rfl : i = n := by omega
  rfl
def sgFl : FuncId → List Bool := fun f => if f = 128 then [false, false, true] else if f = 8589934720 then [false, true] else []
theorem sgFl_eq {f : FuncId} : sgFl f = if f = 128 then [false, false, true] else if f = 8589934720 then [false, true] else [] := _root_.id rfl
theorem way_sgFl : wayE sgFl = false ∧ wayN sgFl = false ∧ wayS sgFl = false ∧ wayZ sgFl = false := ⟨rfl, rfl, rfl, rfl⟩
attribute [go_sem] sgFl_eq way_sgFl
theorem spec_l2Fill_c (n : Nat) (h8 : n ≤ 8) : ∀ (d : Nat) (head : List Int) (out : List (List Int)), head.length + d = n → out.length + 8 ^ d ≤ 1099511627776 → CallT Tryz.prog true 128 [.pv (.int .i64 n), .pv (.sl (.lent false) (List.map (PV.int .i64) head)), .mu false (List.map (elI false) out)] [none, none, none] [.sl .own (List.map (elI false) (out ++ lvl n d [head]))] := by
 intro d
 induction d with
 | zero =>
  intro head out hd ho
  refine CallT.of (sg := sgFl) (ts := [6]) mo Tryz.func128 rfl rfl rfl rfl (by kernel_rfl) (by simp only [go_sem]) rfl rfl ?_
  have cE1 := @spec_l2Has_c
  refine dTa trivial ?_
  all_goals try (refine zlf ?_; repeat' first | exact zso | refine And.intro ?_ ?_ | (refine zim ?_; intro zb hc) | (refine zin ?_; intro zb) | intro j')
  all_goals try refine zbx ?_
  all_goals (rw [List.take_of_length_le (by simp)]; rfl)
 | succ d ih =>
  intro head out hd ho
  refine CallT.of (sg := sgFl) (ts := [6]) mo Tryz.func128 rfl rfl rfl rfl (by kernel_rfl) (by simp only [go_sem]) rfl rfl ?_
  have cE1 := @spec_l2Has_c
  refine dTa trivial ?_
  all_goals try (refine zlf ?_; repeat' first | exact zso | refine And.intro ?_ ?_ | (refine zim ?_; intro zb hc) | (refine zin ?_; intro zb) | intro j')
  all_goals try refine zbx ?_
  refine v_loopB (fun ms1 S1 => ∃ (v : Nat), S1.e 0 = .p (.int .i64 (n)) ∧ S1.e 1 = .p (.sl (.lent false) (List.map (PV.int .i64) (head))) ∧ OwnM (S1.e 2) S1.h S1.n (elI false) ((out ++ lvl n d (extL head v)).length) (out ++ lvl n d (extL head v)) ∧ S1.e 7 = .p (.int .i64 ((v + 1))) ∧ (v ≤ n) ∧ ms1 = n - v) ((fun (v : Nat) => n - v) (0)) ?_ ⟨0, dIa trivial ?_⟩
  all_goals try (refine zlf ?_; repeat' first | exact zso | refine And.intro ?_ ?_ | (refine zim ?_; intro zb hc) | (refine zin ?_; intro zb) | intro j')
  all_goals try refine zbx ?_
  rintro ms1 S1 ⟨v, h1_0, h1_1, o1_2, h1_7, c1_0, hm1⟩
  obtain ⟨i1_2, mm1_2, h1_2, b1_2, l1_2⟩ := o1_2.out
  have ni1_2 := znds (x := i1_2) (n := S1.n)
  have fL1 := (And.intro h1_0 (And.intro h1_1 (And.intro h1_7 (And.intro h1_2 (And.intro b1_2 ni1_2)))))
  have b1 := lvl_len h8 (k := d) (L := extL head v)
  have b2 := extL_len (p := head) (j := v)
  have b3 : (extL head v).length * 8 ^ d ≤ v * 8 ^ d := Nat.mul_le_mul_right _ b2
  have cM1 := @ih
  refine dTa fL1 ?_
  all_goals try (refine zlf ?_; repeat' first | exact zso | refine And.intro ?_ ?_ | (refine zim ?_; intro zb hc) | (refine zin ?_; intro zb) | intro j')
  all_goals try refine zbx ?_
  ·have b4 := Nat.mul_le_mul_right (8 ^ d) (show v + 1 ≤ 8 by omega)
   have b5 : 8 ^ (d + 1) = 8 * 8 ^ d := by rw [Nat.pow_succ, Nat.mul_comm]
   rw [Nat.succ_mul] at b4
   rw [List.length_append]; omega
  ·focus
    refine q_lp_n ((fun (v : Nat) => n - v) (v+1)) (dC fL1 ?_) ⟨v+1, dC fL1 ?_⟩
    all_goals try (refine zlf ?_; repeat' first | exact zso | refine And.intro ?_ ?_ | (refine zim ?_; intro zb hc) | (refine zin ?_; intro zb) | intro j')
    all_goals try refine zbx ?_
   all_goals (rw [extL_succ, hc, if_neg (by decide), lvl_app]; try simp only [tk1, List.length_append, List.append_assoc, Nat.add_assoc])
  ·focus
    refine q_lp_n ((fun (v : Nat) => n - v) (v+1)) (dC fL1 ?_) ⟨v+1, dC fL1 ?_⟩
    all_goals try (refine zlf ?_; repeat' first | exact zso | refine And.intro ?_ ?_ | (refine zim ?_; intro zb hc) | (refine zin ?_; intro zb) | intro j')
    all_goals try refine zbx ?_
   all_goals (rw [extL_succ, hc, if_pos rfl, List.append_nil])
  ·obtain rfl : v = n := by omega
   rw [lvl, List.flatMap_cons, List.flatMap_nil, List.append_nil]
  ·rw [show extL head 0 = [] by simp [extL, lackL], lvl_nil, List.append_nil]
  ·rw [show extL head 0 = [] by simp [extL, lackL], lvl_nil, List.append_nil]
def permsB (n : Int) : List (List Int) := if 0 ≤ n ∧ n ≤ 6 then permL n.toNat else []
theorem spec_PermsOf_c (n : Int) : Fun Tryz.prog 98 [(.int .i64 (n))] [(.sl .own (List.map (elI false) (permsB n)))] := by
 have h8 := fun (a : 0 ≤ n) (b : n ≤ 6) => spec_l2Fill_c n.toNat (by omega) n.toNat [] [] (Nat.zero_add _) (by have h2 : 8 ^ n.toNat ≤ 8 ^ 8 := Nat.pow_le_pow_right (by omega) (by omega); simp only [List.length_nil, Nat.zero_add]; omega)
 by_cases hn : 0 ≤ n ∧ n ≤ 6
 ·have h9 := h8 hn.1 hn.2
  rw [show ((n.toNat : Nat) : Int) = n by omega] at h9
  have h10 : permsB n = lvl n.toNat n.toNat [[]] := by rw [permsB, if_pos hn]; rfl
  rw [h10]
  simp only [List.map_nil, List.nil_append] at h9
  refine fO sgFl [2] Tryz.func98 ?_
  have cE1 := @spec_l1In_c
  have cM1 := @h9
  refine dEa trivial ?_
  all_goals try (refine zlf ?_; repeat' first | exact zso | refine And.intro ?_ ?_ | (refine zim ?_; intro zb hc) | (refine zin ?_; intro zb) | intro j')
  all_goals try refine zbx ?_
 ·have h10 : permsB n = [] := by rw [permsB, if_neg hn]
  rw [h10]
  refine fO sgFl [2] Tryz.func98 ?_
  have cE1 := @spec_l1In_c
  refine dE trivial ?_
  all_goals try (refine zlf ?_; repeat' first | exact zso | refine And.intro ?_ ?_ | (refine zim ?_; intro zb hc) | (refine zin ?_; intro zb) | intro j')
  all_goals try refine zbx ?_
  all_goals exact absurd hc hn
end Go.Gl
set_option linter.unusedSimpArgs false
set_option linter.unusedVariables false
set_option maxRecDepth 20000
set_option linter.unusedSectionVars false
namespace Go.Gl
open Go Go.Proofs
variable [Amb]
def mkLL : List Nat → Int → List (List Int)
 | [], _ => []
 | n :: ns, k => markL n k :: mkLL ns (k + n)
theorem mkLL_len : ∀ {ns : List Nat} {k : Int}, (mkLL ns k).length = ns.length
 | [], _ => rfl
 | _ :: ns, _ => by simp only [mkLL, List.length_cons, mkLL_len]
theorem mkLL_take {L : List (List Int)} {k : Int} : List.take L.length (mkLL (L.map List.length) k) = mkLL (L.map List.length) k := by
 rw [List.take_of_length_le]; rw [mkLL_len, List.length_map]; exact Nat.le_refl _
attribute [go_sem] mkLL_take mkLL_len
end Go.Gl
set_option linter.unusedSimpArgs false
set_option linter.unusedVariables false
set_option maxRecDepth 20000
set_option linter.unusedSectionVars false
namespace Go.Gl
open Go Go.Proofs
variable [Amb]
theorem permGo_iff {n : Int} : ∀ {p seen : List Int}, permGo n seen p = true ↔ (∀ v ∈ p, 1 ≤ v ∧ v ≤ n) ∧ p.Nodup ∧ ∀ v ∈ p, v ∉ seen
 | [], seen => by simp [permGo]
 | v :: p, seen => by
  rw [permGo, Bool.and_eq_true, permGo_iff]
  simp only [Bool.and_eq_true, decide_eq_true_eq, Bool.not_eq_true', List.nodup_cons, List.mem_append, List.mem_singleton]
  constructor
  ·rintro ⟨⟨⟨h1, h2⟩, h3⟩, h4, h5, h6⟩
   have h3' : v ∉ seen := fun h => by rw [← List.contains_iff_mem] at h; rw [h] at h3; cases h3
   refine ⟨fun x hx => ?_, ⟨fun hv => h6 v hv (.inr rfl), h5⟩, fun x hx => ?_⟩
   ·rcases List.mem_cons.1 hx with rfl | hx
    ·exact ⟨h1, h2⟩
    ·exact h4 x hx
   ·rcases List.mem_cons.1 hx with rfl | hx
    ·exact h3'
    ·exact fun hs => h6 x hx (.inl hs)
  ·rintro ⟨h1, ⟨h2, h3⟩, h4⟩
   have h5 := h1 v (by simp)
   refine ⟨⟨⟨h5.1, h5.2⟩, ?_⟩, fun x hx => h1 x (by simp [hx]), h3, fun x hx => ?_⟩
   ·rw [← Bool.not_eq_true, List.contains_iff_mem]; exact h4 v (by simp)
   ·rintro (hs | rfl)
    ·exact h4 x (by simp [hx]) hs
    ·exact h2 hx
theorem permB_iff {p : List Int} : permB p = true ↔ (∀ v ∈ p, 1 ≤ v ∧ v ≤ p.length) ∧ p.Nodup := by
 rw [permB, permGo_iff]; simp
theorem lackL_mem {p : List Int} {n : Nat} {v : Int} (h : v ∈ lackL p n) : 1 ≤ v ∧ v ≤ n ∧ v ∉ p := by
 simp only [lackL, List.mem_filter, List.mem_map, List.mem_range, Bool.not_eq_true'] at h
 obtain ⟨⟨i, hi, rfl⟩, h2⟩ := h
 refine ⟨by omega, by omega, fun hm => ?_⟩
 rw [← List.contains_iff_mem, h2] at hm; cases hm
theorem lvl_ok {n : Nat} : ∀ {k : Nat} {L : List (List Int)}, (∀ l ∈ L, (∀ v ∈ l, 1 ≤ v ∧ v ≤ (n : Int)) ∧ l.Nodup) → ∀ l ∈ lvl n k L, (∀ v ∈ l, 1 ≤ v ∧ v ≤ (n : Int)) ∧ l.Nodup
 | 0, L, h, l, hl => h l hl
 | k + 1, L, h, l, hl => by
  rw [lvl] at hl
  refine lvl_ok (fun q hq => ?_) l hl
  simp only [List.mem_flatMap, extL, List.mem_map] at hq
  obtain ⟨p, hp, v, hv, rfl⟩ := hq
  obtain ⟨h1, h2⟩ := h p hp
  obtain ⟨g1, g2, g3⟩ := lackL_mem hv
  refine ⟨fun x hx => ?_, ?_⟩
  ·rcases List.mem_append.1 hx with hx | hx
   ·exact h1 x hx
   ·simp at hx; subst hx; exact ⟨g1, g2⟩
  ·rw [List.nodup_append]
   refine ⟨h2, by simp, fun a ha b hb e => ?_⟩
   simp at hb; subst hb; subst e; exact g3 ha
theorem permL_perm {n : Nat} {l : List Int} (h : l ∈ permL n) : permB l = true := by
 have h1 := permL_row l h
 have h2 := lvl_ok (n := n) (L := [[]]) (k := n) (by simp) l h
 rw [permB_iff, h1]; exact h2
theorem permL_isPerm {n : Nat} (hn : n ≤ 8) {l : List Int} (h : l ∈ permL n) : isPermB l = true := by
 rw [isPermB, permL_perm h, permL_row l h, decide_eq_true hn]; rfl
/-! ### lists without repetition -/
theorem len_two {α : Type} (p : α → Bool) : ∀ (l : List α), l.length = (l.filter p).length + (l.filter fun x => !p x).length
 | [] => rfl
 | x :: l => by
  have := len_two p l
  rw [List.filter_cons, List.filter_cons]
  cases p x <;> simp <;> omega
theorem nodup_le : ∀ {n : Nat} {l : List Int} {a : Int}, l.Nodup → (∀ x ∈ l, a < x ∧ x ≤ a + n) → l.length ≤ n
 | 0, l, a, _, hb => by
  cases l with
  | nil => simp
  | cons x l => have := hb x (by simp); omega
 | n + 1, l, a, hn, hb => by
  have h1 : (l.filter fun x => decide (x ≠ a + (n + 1 : Nat))).length ≤ n := nodup_le (a := a) (List.Nodup.sublist List.filter_sublist hn) fun x hx => by
   simp only [List.mem_filter, decide_eq_true_eq] at hx
   have := hb x hx.1
   refine ⟨this.1, ?_⟩
   have h2 := hx.2
   push_cast at h2 this ⊢
   omega
  have h2 : l.length ≤ (l.filter fun x => decide (x ≠ a + (n + 1 : Nat))).length + 1 := by
   have h3 := len_two (fun x => decide (x ≠ a + (n + 1 : Nat))) l
   have h4 : (l.filter fun x => !decide (x ≠ a + (n + 1 : Nat))).length ≤ 1 := by
    have h5 : (l.filter fun x => !decide (x ≠ a + (n + 1 : Nat))).Nodup := List.Nodup.sublist List.filter_sublist hn
    have h6 : ∀ x ∈ l.filter (fun x => !decide (x ≠ a + (n + 1 : Nat))), x = a + (n + 1 : Nat) := fun x hx => by
     simp only [List.mem_filter] at hx; simpa using hx.2
    revert h5 h6
    generalize l.filter (fun x => !decide (x ≠ a + (n + 1 : Nat))) = q
    intro h5 h6
    match q, h5, h6 with
    | [], _, _ => simp
    | [x], _, _ => simp
    | x :: y :: r, h5, h6 =>
     have e1 := h6 x (by simp)
     have e2 := h6 y (by simp)
     simp only [List.nodup_cons, List.mem_cons, not_or] at h5
     exact absurd (e1.trans e2.symm) h5.1.1
   omega
  omega
/-- Every number from 1 on has its place. -/
theorem perm_mem {p : List Int} (h : permB p = true) {v : Int} (h1 : 1 ≤ v) (h2 : v ≤ p.length) : v ∈ p := by
 obtain ⟨q1, q2⟩ := permB_iff.1 h
 by_cases hm : v ∈ p
 ·exact hm
 ·exfalso
  have := nodup_le (n := p.length) (a := 0) (l := v :: p) (List.nodup_cons.2 ⟨hm, q2⟩) fun x hx => by
   rcases List.mem_cons.1 hx with rfl | hx
   ·omega
   ·have := q1 x hx; omega
  simp at this; omega
theorem perm_spot {p : List Int} (h : permB p = true) {v : Int} (h1 : 1 ≤ v) (h2 : v ≤ p.length) : ∃ i, i < p.length ∧ p.getD i 0 = v := by
 obtain ⟨i, hi, e⟩ := List.getElem_of_mem (perm_mem h h1 h2)
 exact ⟨i, hi, by rw [List.getD_eq_getElem?_getD, List.getElem?_eq_getElem hi]; exact e⟩
theorem perm_inj {p : List Int} (h : permB p = true) {i j : Nat} (hi : i < p.length) (hj : j < p.length) (e : p.getD i 0 = p.getD j 0) : i = j := by
 obtain ⟨q1, q2⟩ := permB_iff.1 h
 rw [List.getD_eq_getElem?_getD, List.getElem?_eq_getElem hi, List.getD_eq_getElem?_getD, List.getElem?_eq_getElem hj] at e
 exact (List.getElem_inj q2).1 e
end Go.Gl
set_option linter.unusedSimpArgs false
set_option linter.unusedVariables false
set_option maxRecDepth 20000
set_option linter.unusedSectionVars false
namespace Go.Gl
open Go Go.Proofs
variable [Amb]
/-- The numbers of a text's bytes, as digits. -/
def dgL (s : List UInt8) : List Int := s.map fun c => (c.toNat : Int) - 48
def prsB (s : List UInt8) : Bool := decide (s = [45]) || (!decide (s = []) && isPermB (dgL s))
def prsL (s : List UInt8) : List Int := if s = [45] then [] else if prsB s = true then dgL s else []
theorem dgL_take {s : List UInt8} {k : Nat} (h : k < s.length) : dgL (s.take (k + 1)) = dgL (s.take k) ++ [((s.getD k 0).toNat : Int) - 48] := by
 rw [take_getD (d := 0) h, dgL, List.map_append]; rfl
theorem dgL_len {s : List UInt8} : (dgL s).length = s.length := by simp [dgL]
theorem spec_ParsePerm_c (s : List UInt8) (hl : s.length ≤ 1048576) : Fun Tryz.prog 91 [(.str (s))] [(.sl .own (List.map (PV.int .i64) (prsL s))), (.bool (prsB s))] := by
 refine fO sg0 [2, 3] Tryz.func91 ?_
 have cE1 := @spec_IsPerm_c
 refine dEa trivial ?_
 all_goals try (refine zlf ?_; repeat' first | exact zso | refine And.intro ?_ ?_ | (refine zim ?_; intro zb hc; repeat (have zc := zb.1; replace zb := zb.2)) | (refine zin ?_; intro zb) | intro j')
 all_goals try refine zbx ?_
 ·subst hc; rfl
 ·subst hc; rfl
 ·have hn := hc
  refine v_loopB (fun ms1 S1 => ∃ (k : Nat), S1.e 0 = .p (.str (s)) ∧ OwnL (S1.e 4) S1.h S1.n (PV.int .i64) ((dgL (s.take k)).length) (dgL (s.take k)) ∧ S1.e 5 = .p (.int .i64 (k)) ∧ (k ≤ s.length) ∧ ms1 = s.length - k) ((fun (k : Nat) => s.length - k) (0)) ?_ ⟨0, dC trivial ?_⟩
  all_goals try (refine zlf ?_; repeat' first | exact zso | refine And.intro ?_ ?_ | (refine zim ?_; intro zb hc; repeat (have zc := zb.1; replace zb := zb.2)) | (refine zin ?_; intro zb) | intro j')
  all_goals try refine zbx ?_
  rintro ms1 S1 ⟨k, h1_0, o1_4, h1_5, c1_0, hm1⟩
  obtain ⟨i1_4, h1_4, b1_4, l1_4⟩ := o1_4.out
  have ni1_4 := znds (x := i1_4) (n := S1.n)
  have fL1 := (And.intro h1_0 (And.intro h1_5 (And.intro h1_4 (And.intro b1_4 ni1_4))))
  have b1 := dgL_len (s := s.take k)
  rw [List.length_take] at b1
  have b2 := dgL_len (s := s)
  have b3 : (s.getD k 0).toNat < 256 := (s.getD k 0).toNat_lt
  have b4 := dgL_take (s := s) (k := k)
  by_cases hk : k < s.length
  ·have u5 : (Tryz.prog.underlying 5).isSome = true := by kernel_rfl
   refine dE (And.intro fL1 @u5) ?_
   all_goals try (refine zlf ?_; repeat' first | exact zso | refine And.intro ?_ ?_ | (refine zim ?_; intro zb hc; repeat (have zc := zb.1; replace zb := zb.2)) | (refine zin ?_; intro zb) | intro j')
   all_goals try refine zbx ?_
   all_goals try (rw [n_i64]; omega)
   all_goals try exact zaut
   focus
    refine q_lp_n ((fun (k : Nat) => s.length - k) (k+1)) (dC fL1 ?_) ⟨k+1, dC fL1 ?_⟩
    all_goals try (refine zlf ?_; repeat' first | exact zso | refine And.intro ?_ ?_ | (refine zim ?_; intro zb hc; repeat (have zc := zb.1; replace zb := zb.2)) | (refine zin ?_; intro zb) | intro j')
    all_goals try refine zbx ?_
   all_goals first | (rw [b4 hk]; done) | (rw [b4 hk]; simp; done)
  ·rw [List.take_of_length_le (by omega)] at *
   refine dEa fL1 ?_
   all_goals try (refine zlf ?_; repeat' first | exact zso | refine And.intro ?_ ?_ | (refine zim ?_; intro zb hc; repeat (have zc := zb.1; replace zb := zb.2)) | (refine zin ?_; intro zb) | intro j')
   all_goals try refine zbx ?_
   all_goals (simp_all [prsL, prsB]; done)
theorem impl_ParsePerm_c (s : List UInt8) (hl : s.length ≤ 1048576) : Fun Tryz.prog 89 [(.str (s))] [(.sl .own (List.map (PV.int .i64) (prsL s))), (.bool (prsB s))] := by
 refine fO sg0 [2, 3] Tryz.func89 ?_
 have cE1 := @impl_IsPerm_c
 refine dEa trivial ?_
 all_goals try (refine zlf ?_; repeat' first | exact zso | refine And.intro ?_ ?_ | (refine zim ?_; intro zb hc; repeat (have zc := zb.1; replace zb := zb.2)) | (refine zin ?_; intro zb) | intro j')
 all_goals try refine zbx ?_
 ·subst hc; rfl
 ·subst hc; rfl
 ·have hn := hc
  refine v_loopB (fun ms1 S1 => ∃ (k : Nat), S1.e 0 = .p (.str (s)) ∧ OwnL (S1.e 4) S1.h S1.n (PV.int .i64) ((dgL (s.take k)).length) (dgL (s.take k)) ∧ S1.e 11 = .p (.int .i64 (s.length)) ∧ S1.e 12 = .p (.int .i64 (k)) ∧ (k ≤ s.length) ∧ ms1 = s.length - k) ((fun (k : Nat) => s.length - k) (0)) ?_ ⟨0, dC trivial ?_⟩
  all_goals try (refine zlf ?_; repeat' first | exact zso | refine And.intro ?_ ?_ | (refine zim ?_; intro zb hc; repeat (have zc := zb.1; replace zb := zb.2)) | (refine zin ?_; intro zb) | intro j')
  all_goals try refine zbx ?_
  rintro ms1 S1 ⟨k, h1_0, o1_4, h1_11, h1_12, c1_0, hm1⟩
  obtain ⟨i1_4, h1_4, b1_4, l1_4⟩ := o1_4.out
  have ni1_4 := znds (x := i1_4) (n := S1.n)
  have fL1 := (And.intro h1_0 (And.intro h1_11 (And.intro h1_12 (And.intro h1_4 (And.intro b1_4 ni1_4)))))
  have b1 := dgL_len (s := s.take k)
  rw [List.length_take] at b1
  have b2 := dgL_len (s := s)
  have b3 : (s.getD k 0).toNat < 256 := (s.getD k 0).toNat_lt
  have b4 := dgL_take (s := s) (k := k)
  by_cases hk : k < s.length
  ·have u5 : (Tryz.prog.underlying 5).isSome = true := by kernel_rfl
   refine dE (And.intro fL1 @u5) ?_
   all_goals try (refine zlf ?_; repeat' first | exact zso | refine And.intro ?_ ?_ | (refine zim ?_; intro zb hc; repeat (have zc := zb.1; replace zb := zb.2)) | (refine zin ?_; intro zb) | intro j')
   all_goals try refine zbx ?_
   all_goals try (rw [n_i64]; omega)
   all_goals try exact zaut
   focus
    refine q_lp_n ((fun (k : Nat) => s.length - k) (k+1)) (dC fL1 ?_) ⟨k+1, dC fL1 ?_⟩
    all_goals try (refine zlf ?_; repeat' first | exact zso | refine And.intro ?_ ?_ | (refine zim ?_; intro zb hc; repeat (have zc := zb.1; replace zb := zb.2)) | (refine zin ?_; intro zb) | intro j')
    all_goals try refine zbx ?_
   all_goals first | (rw [b4 hk]; done) | (rw [b4 hk]; simp; done)
  ·rw [List.take_of_length_le (by omega)] at *
   refine dEa fL1 ?_
   all_goals try (refine zlf ?_; repeat' first | exact zso | refine And.intro ?_ ?_ | (refine zim ?_; intro zb hc; repeat (have zc := zb.1; replace zb := zb.2)) | (refine zin ?_; intro zb) | intro j')
   all_goals try refine zbx ?_
   all_goals (simp_all [prsL, prsB]; done)
/-! ### splitting -/
/-- The pieces of a text between the bytes c; 'cur' is the piece begun. -/
def spB (c : UInt8) : List UInt8 → List UInt8 → List (List UInt8)
 | [], cur => [cur]
 | x :: s, cur => if x = c then cur :: spB c s [] else spB c s (cur ++ [x])
def splitC (c : UInt8) (s : List UInt8) : List (List UInt8) := spB c s []
theorem spB_len {c : UInt8} : ∀ {s cur : List UInt8}, (spB c s cur).length ≤ s.length + 1
 | [], _ => by simp [spB]
 | x :: s, cur => by
  rw [spB]; split
  ·have := spB_len (c := c) (s := s) (cur := []); simp; omega
  ·have := spB_len (c := c) (s := s) (cur := cur ++ [x]); simp; omega
theorem take_dropB {s : List UInt8} {f k : Nat} (h : k < s.length) (hf : f ≤ k) : (s.take (k + 1)).drop f = (s.take k).drop f ++ [s.getD k 0] := by
 rw [take_getD (d := 0) h, List.drop_append_of_le_length (by simp; omega)]
theorem spec_SplitByte_c (s : List UInt8) (c : UInt8) (hl : s.length ≤ 1048576) : Fun Tryz.prog 90 [(.str (s)), (.int .u8 ((c.toNat : Int)))] [(.sl .own (List.map PV.str (splitC c s)))] := by
 refine fO sg0 [4] Tryz.func90 ?_
 refine dEa trivial ?_
 all_goals try (refine zlf ?_; repeat' first | exact zso | refine And.intro ?_ ?_ | (refine zim ?_; intro zb hc) | (refine zin ?_; intro zb) | intro j')
 all_goals try refine zbx ?_
 refine v_loopB (fun ms1 S1 => ∃ (k : Nat) (f : Nat) (out : List (List UInt8)), S1.e 0 = .p (.str (s)) ∧ S1.e 1 = .p (.int .u8 ((c.toNat : Int))) ∧ OwnL (S1.e 5) S1.h S1.n PV.str ((out).length) (out) ∧ S1.e 6 = .p (.int .i64 (f)) ∧ S1.e 7 = .p (.int .i64 (k)) ∧ (k ≤ s.length + 1) ∧ (f ≤ k) ∧ (out.length ≤ k) ∧ (k ≤ s.length → out ++ spB c (s.drop k) ((s.take k).drop f) = splitC c s) ∧ (k = s.length + 1 → out = splitC c s) ∧ ms1 = s.length + 1 - k) ((fun (k : Nat) (f : Nat) (out : List (List UInt8)) => s.length + 1 - k) (0) (0) ([])) ?_ ⟨0, 0, [], dIa trivial ?_⟩
 all_goals try (refine zlf ?_; repeat' first | exact zso | refine And.intro ?_ ?_ | (refine zim ?_; intro zb hc) | (refine zin ?_; intro zb) | intro j')
 all_goals try refine zbx ?_
 rintro ms1 S1 ⟨k, f, out, h1_0, h1_1, o1_5, h1_6, h1_7, c1_0, c1_1, c1_2, c1_3, c1_4, hm1⟩
 obtain ⟨i1_5, h1_5, b1_5, l1_5⟩ := o1_5.out
 have ni1_5 := znds (x := i1_5) (n := S1.n)
 have fL1 := (And.intro h1_0 (And.intro h1_1 (And.intro h1_6 (And.intro h1_7 (And.intro h1_5 (And.intro b1_5 ni1_5))))))
 have d1 := fun h => drop_at (s := s) (k := k) h
 have d2 : f ≤ k → k < s.length → (s.take (k + 1)).drop f = (s.take k).drop f ++ [s.getD k 0] := fun a b => take_dropB b a
 refine dEa fL1 ?_
 all_goals try (refine zlf ?_; repeat' first | exact zso | refine And.intro ?_ ?_ | (refine zim ?_; intro zb hc) | (refine zin ?_; intro zb) | intro j')
 all_goals try refine zbx ?_
 ·have e : s.getD k 0 = c := UInt8.toNat_inj.1 (by omega)
  focus
   refine q_lp_n ((fun (k : Nat) (f : Nat) (out : List (List UInt8)) => s.length + 1 - k) (k+1) (k+1) (out ++ [(s.take k).drop f])) (dC fL1 ?_) ⟨k+1, k+1, out ++ [(s.take k).drop f], dC fL1 ?_⟩
   all_goals try (refine zlf ?_; repeat' first | exact zso | refine And.intro ?_ ?_ | (refine zim ?_; intro zb hc) | (refine zin ?_; intro zb) | intro j')
   all_goals try refine zbx ?_
  ·intro _
   have := c1_3 (by omega)
   rw [d1 (by omega), spB, if_pos e] at this
   rw [← this, show (s.take (k + 1)).drop (k + 1) = [] from List.drop_of_length_le (by simp; omega)]
 ·have e : ¬ s.getD k 0 = c := fun e => hc (by rw [e])
  focus
   refine q_lp_n ((fun (k : Nat) (f : Nat) (out : List (List UInt8)) => s.length + 1 - k) (k+1) (f) (out)) (dC fL1 ?_) ⟨k+1, f, out, dC fL1 ?_⟩
   all_goals try (refine zlf ?_; repeat' first | exact zso | refine And.intro ?_ ?_ | (refine zim ?_; intro zb hc) | (refine zin ?_; intro zb) | intro j')
   all_goals try refine zbx ?_
  ·intro _
   have := c1_3 (by omega)
   rw [d1 (by omega), spB, if_neg e] at this
   rw [d2 (by omega) (by omega)]; exact this
 ·focus
   refine q_lp_n ((fun (k : Nat) (f : Nat) (out : List (List UInt8)) => s.length + 1 - k) (k+1) (k+1) (out ++ [(s.take k).drop f])) (dC fL1 ?_) ⟨k+1, k+1, out ++ [(s.take k).drop f], dC fL1 ?_⟩
   all_goals try (refine zlf ?_; repeat' first | exact zso | refine And.intro ?_ ?_ | (refine zim ?_; intro zb hc) | (refine zin ?_; intro zb) | intro j')
   all_goals try refine zbx ?_
  ·intro _
   have := c1_3 (by omega)
   rw [List.drop_of_length_le (by omega), spB] at this
   exact this
 ·exact c1_4 (by omega)
 ·rfl
end Go.Gl
namespace Go.Proofs
open Go.Shelf
def Tryz.lays146_ren : Go.Shelf.Ren := ⟨fun | 146 => 88 | 221 => 125 | 268 => 141 | 138 => 142 | 143 => 143 | 195 => 150 | 197 => 151 | 218 => 152 | 219 => 153 | 260 => 159 | 217 => 160 | 225 => 161 | 224 => 162 | 267 => 163 | 266 => 166 | 314 => 167 | n => n, fun | 9 => 9 | 31 => 42 | 3 => 3 | 4 => 4 | 0 => 0 | 105 => 120 | 21 => 21 | 5 => 5 | 46 => 87 | 119 => 128 | 139 => 131 | 138 => 130 | 146 => 132 | 51 => 124 | n => n, fun | 1 => 0 | 3 => 2 | 4 => 3 | n => n⟩
theorem Tryz.lays146 : Go.Proofs.Lays.n146 Tryz.prog Tryz.lays146_ren := {
 mixed := by kernel_rfl
 f138 := Tryz.func142.trans (congrArg some (by kernel_rfl))
 f143 := Tryz.func143.trans (congrArg some (by kernel_rfl))
 f146 := Tryz.func88.trans (congrArg some (by kernel_rfl))
 f195 := Tryz.func150.trans (congrArg some (by kernel_rfl))
 f197 := Tryz.func151.trans (congrArg some (by kernel_rfl))
 f217 := Tryz.func160.trans (congrArg some (by kernel_rfl))
 f218 := Tryz.func152.trans (congrArg some (by kernel_rfl))
 f219 := Tryz.func153.trans (congrArg some (by kernel_rfl))
 f221 := Tryz.func125.trans (congrArg some (by kernel_rfl))
 f224 := Tryz.func162.trans (congrArg some (by kernel_rfl))
 f225 := Tryz.func161.trans (congrArg some (by kernel_rfl))
 f260 := Tryz.func159.trans (congrArg some (by kernel_rfl))
 f266 := Tryz.func166.trans (congrArg some (by kernel_rfl))
 f267 := Tryz.func163.trans (congrArg some (by kernel_rfl))
 f268 := Tryz.func141.trans (congrArg some (by kernel_rfl))
 f314 := Tryz.func167.trans (congrArg some (by kernel_rfl))
 t0 := Tryz.underlying0
 a0 := Tryz.isAgg0
 z0 := Tryz.sizeOf0
 v0 := Tryz.zeroValue0
 t3 := Tryz.underlying3
 a3 := Tryz.isAgg3
 z3 := Tryz.sizeOf3
 v3 := Tryz.zeroValue3
 t4 := Tryz.underlying4
 a4 := Tryz.isAgg4
 z4 := Tryz.sizeOf4
 v4 := Tryz.zeroValue4
 t5 := Tryz.underlying5
 a5 := Tryz.isAgg5
 z5 := Tryz.sizeOf5
 v5 := Tryz.zeroValue5
 t9 := Tryz.underlying9
 a9 := Tryz.isAgg9
 z9 := Tryz.sizeOf9
 v9 := Tryz.zeroValue9
 t21 := Tryz.underlying21
 a21 := Tryz.isAgg21
 z21 := Tryz.sizeOf21
 v21 := Tryz.zeroValue21
 t31 := Tryz.underlying42
 a31 := Tryz.isAgg42
 z31 := Tryz.sizeOf42
 v31 := Tryz.zeroValue42
 t46 := Tryz.underlying87
 a46 := Tryz.isAgg87
 z46 := Tryz.sizeOf87
 v46 := Tryz.zeroValue87
 t51 := Tryz.underlying124
 a51 := Tryz.isAgg124
 z51 := Tryz.sizeOf124
 v51 := Tryz.zeroValue124
 t105 := Tryz.underlying120
 a105 := Tryz.isAgg120
 z105 := Tryz.sizeOf120
 v105 := Tryz.zeroValue120
 t119 := Tryz.underlying128
 a119 := Tryz.isAgg128
 z119 := Tryz.sizeOf128
 t138 := Tryz.underlying130
 a138 := Tryz.isAgg130
 z138 := Tryz.sizeOf130
 v138 := Tryz.zeroValue130
 t139 := Tryz.underlying131
 a139 := Tryz.isAgg131
 z139 := Tryz.sizeOf131
 v139 := Tryz.zeroValue131
 t146 := Tryz.underlying132
 a146 := Tryz.isAgg132
 z146 := Tryz.sizeOf132
 v146 := Tryz.zeroValue132
 g1 := by kernel_rfl
 g3 := by kernel_rfl
 g4 := by kernel_rfl }
open Go.RowKit Go.Lib in
/-- strings.Split. (LAID: no walk: one application.) -/
theorem Tryz.strings_Split (s sep : ByteArray) (m : Int) (w : World) (hs : s.size < 4294967281) (hm : w.cell? ⟨0, 0, none⟩ = some (.int .i64 m)) (h1 : 1 ≤ sep.size) :
  Calls Tryz.prog 88 #[.string s, .string sep] w fun e w' =>
   e = .returned (.slice (some ⟨w.heap.size, 0, none⟩) (Lib.countB s sep + 1) (Lib.countB s sep + 1)) ∧ w' = w.alloc (.cells ((Lib.splitB sep 0 (Lib.countB s sep) s).map Value.string).toArray 9) := Any.strings_Split Tryz.lays146 (by kernel_rfl) s sep m w hs hm h1
end Go.Proofs
set_option linter.unusedSimpArgs false
set_option linter.unusedVariables false
set_option maxRecDepth 20000
set_option linter.unusedSectionVars false
namespace Go.Gl
open Go Go.Proofs
variable [Amb]
/-- The library's longest needle is laid. -/
class SplA [Amb] : Prop where
 has : ∀ w : World, (∀ B o, Amb.tb B = some o → w.heap[B]? = some o) → ∃ m : Int, w.cell? ⟨0, 0, none⟩ = some (.int .i64 m)
variable [SplA]
def addH (cur : List UInt8) : List (List UInt8) → List (List UInt8)
 | [] => []
 | h :: t => (cur ++ h) :: t
theorem addH_nil {X : List (List UInt8)} : addH [] X = X := by cases X <;> rfl
theorem addH_app {a b : List UInt8} {X : List (List UInt8)} : addH a (addH b X) = addH (a ++ b) X := by cases X <;> simp [addH]
theorem splitK_ne {c b : UInt8} (h : ¬ b = c) {l : List UInt8} : ∀ {k : Nat}, Lib.splitK [c] 0 k (b :: l) = addH [b] (Lib.splitK [c] 0 k l)
 | 0 => rfl
 | k + 1 => by
  have e : Lib.index (b :: l) [c] = if Lib.index l [c] == -1 then -1 else Lib.index l [c] + 1 := by
   rw [Lib.index]
   have hp : List.isPrefixOf [c] (b :: l) = false := by simp [List.isPrefixOf]; exact fun e => h e.symm
   rw [hp]; rfl
  rw [Lib.splitK, Lib.splitK, e]
  by_cases hm : Lib.index l [c] = -1
  ·simp [hm, addH]
  ·have hge := Lib.index_ge l [c]
   obtain ⟨j, hj⟩ : ∃ j : Nat, Lib.index l [c] = j := ⟨(Lib.index l [c]).toNat, by omega⟩
   have h1 : ¬ ((j : Int) = -1) := by omega
   have h2 : ¬ ((j : Int) + 1 = -1) := by omega
   have h3 : ((j : Int) + 1).toNat = j + 1 := by omega
   simp [hj, h1, h2, h3, addH]
theorem spB_split {c : UInt8} : ∀ {s cur : List UInt8}, spB c s cur = addH cur (Lib.splitK [c] 0 (s.count c) s)
 | [], cur => by simp [spB, Lib.splitK, addH]
 | b :: l, cur => by
  by_cases h : b = c
  ·subst h
   have e : Lib.index (b :: l) [b] = 0 := by rw [Lib.index]; simp [List.isPrefixOf]
   rw [spB, if_pos rfl, List.count_cons_self, Lib.splitK, e, spB_split, addH_nil]
   simp [addH]
  ·rw [spB, if_neg h, spB_split, List.count_cons_of_ne (by simpa using h), splitK_ne h, addH_app]
theorem strings_Split_c (s : List UInt8) (c : UInt8) (hl : s.length ≤ 1048576) : Fun Tryz.prog 88 [.str s, .str [c]] [.sl .own (List.map .str (splitC c s))] := by
 refine Fun.of_row 9 Tryz.func88 rfl rfl (noRoL_map (fun _ => rfl) _) (by intro x hx; rw [List.mem_map] at hx; obtain ⟨_, _, rfl⟩ := hx; rfl) ?_
 intro w F G vs hamb hv
 simp only [RepL] at hv
 obtain ⟨a, vs1, rfl, ha, b, vs2, rfl, hb, rfl⟩ := hv
 have ha := repP_str ha
 have hb := repP_str hb
 subst ha; subst hb
 obtain ⟨m, hm⟩ := SplA.has w hamb
 have e1 : (Lib.splitB ⟨#[c]⟩ 0 (Lib.countB ⟨s.toArray⟩ ⟨#[c]⟩) ⟨s.toArray⟩).map (·.data.toList) = splitC c s := by
  rw [Lib.splitB_data, splitC, spB_split, addH_nil]
  show Lib.splitK [c] 0 (Lib.count s [c]) s = _
  rw [Lib.count_one]
 have e2 := Lib.splitB_all ⟨#[c]⟩ (Nat.le_refl 1) 0 _ (⟨s.toArray⟩ : ByteArray) rfl
 have e3 : (splitC c s).length = Lib.countB ⟨s.toArray⟩ ⟨#[c]⟩ + 1 := by rw [← e1, List.length_map, e2]
 have e4 := spB_len (c := c) (s := s) (cur := [])
 refine (Tryz.strings_Split ⟨s.toArray⟩ ⟨[c].toArray⟩ m w (by show s.length < _; omega) hm (Nat.le_refl 1)).mono fun e w' h => ?_
 obtain ⟨he, hw⟩ := h
 have e5 : List.map pvV (List.map PV.str (splitC c s)) = (Lib.splitB ⟨#[c]⟩ 0 (Lib.countB ⟨s.toArray⟩ ⟨#[c]⟩) ⟨s.toArray⟩).map Value.string := by
  rw [← e1, List.map_map, List.map_map]
  refine List.map_congr_left fun x _ => ?_
  simp [pvV, plV]
 subst hw
 refine ⟨_, he, ?_, (Go.RowKit.Below.refl _ _).alloc (Nat.le_refl _) _⟩
 rw [e5, List.length_map, e3]
 refine ⟨by rw [List.length_map, e2]; simp, .inr ⟨w.heap.size, _, ((Lib.splitB ⟨#[c]⟩ 0 (Lib.countB ⟨s.toArray⟩ ⟨#[c]⟩) ⟨s.toArray⟩).map Value.string).toArray, rfl, Nat.le_refl _, (show (w.heap.push _)[w.heap.size]? = some _ by simp), Nat.le_refl _, ?_, by simp [e2], by simp only [Nat.mul_one]; exact List.take_of_length_le (by simp [e2])⟩⟩
 have hm : maxLen = 9223372036854775807 := rfl
 unfold splitC at e3; omega
--%reg strings.Split strings_Split_c _ _ ?_
end Go.Gl
set_option linter.unusedSimpArgs false
set_option linter.unusedVariables false
set_option maxRecDepth 20000
set_option linter.unusedSectionVars false
namespace Go.Gl
open Go Go.Proofs
variable [Amb]
/-- What is told of two blocks: that they are as they were. -/
@[reducible] def ambTwo (w : World) (a b : Nat) : Amb := ⟨fun B => if B = a ∨ B = b then w.heap[B]? else none⟩
omit [Amb] in
theorem ambTwo_ok {w : World} {a b B : Nat} {o : Obj} (h : (ambTwo w a b).tb B = some o) : w.heap[B]? = some o := by
 have h : (if B = a ∨ B = b then w.heap[B]? else none) = some o := h
 split at h
 ·exact h
 ·cases h
omit [Amb] in
theorem ambTwo_tab {w : World} {a g : Nat} (hg : Tryz.prog.globalNamed "internal/strconv.uint64pow10" = some g) (h : Lib.TabIs Tryz.prog w "internal/strconv.uint64pow10" .u64 Lib.pow10Tab) : @TabA (ambTwo w a g) := @TabA.mk (ambTwo w a g) (fun w' hw => by
 unfold Lib.TabIs World.var? at h ⊢
 rw [hg, Option.bind_some] at h ⊢
 cases e : w.heap[g]? with
 | none => rw [e] at h; cases h
 | some o => rw [hw g o (show (if g = a ∨ g = g then w.heap[g]? else none) = some o by rw [if_pos (.inr rfl)]; exact e)]; rw [e] at h; exact h)
omit [Amb] in
theorem ambTwo_spl {w : World} {b : Nat} (h : ∃ m : Int, w.cell? ⟨0, 0, none⟩ = some (.int .i64 m)) : @SplA (ambTwo w 0 b) := @SplA.mk (ambTwo w 0 b) (fun w' hw => by
 obtain ⟨m, h⟩ := h
 refine ⟨m, ?_⟩
 cases e : w.heap[0]? with
 | none => simp only [World.cell?, e] at h; cases h
 | some o =>
  have := hw 0 o (show (if 0 = 0 ∨ 0 = b then w.heap[0]? else none) = some o by rw [if_pos (.inl rfl)]; exact e)
  simp only [World.cell?, this]
  simp only [World.cell?, e] at h
  exact h)
end Go.Gl
set_option linter.unusedSimpArgs false
set_option linter.unusedVariables false
set_option maxRecDepth 20000
set_option linter.unusedSectionVars false
namespace Go.Gl
open Go Go.Proofs
variable [Amb]
def idxG {α : Type} (p : α → Bool) : List α → Nat → Int
 | [], _ => -1
 | x :: l, i => if p x then i else idxG p l (i + 1)
theorem idxG_any {α : Type} {p : α → Bool} : ∀ {l : List α} {i : Nat}, decide (0 ≤ idxG p l i) = l.any p
 | [], _ => rfl
 | x :: l, i => by
  rw [idxG, List.any_cons]
  split
  ·rename_i h; rw [h, Bool.true_or]; exact decide_eq_true (by omega)
  ·rename_i h; rw [idxG_any, Bool.eq_false_iff.2 h, Bool.false_or]
theorem slices_IndexFunc_LLint_int_c {e0 m0 : Bool} (l : List (List Int)) (g : FuncId) (caps : List PV) (p : List Int → Bool) (hl : l.length ≤ 1099511627776) (hp : ∀ x ∈ l, Fun Tryz.prog g (.sl (.lent e0) (List.map (PV.int .i64) x) :: caps.map PV.cell) [.bool (p x)]) : Fun Tryz.prog 114 [(.sl (.lent m0) (List.map (elI e0) (l))), (.fn g [] caps)] [(.int .i64 (idxG p l 0))] := by
 refine fO sg0 [4] Tryz.func114 ?_
 refine dE trivial ?_
 all_goals try (refine zlf ?_; repeat' first | exact zso | refine And.intro ?_ ?_ | (refine zim ?_; intro zb hc) | (refine zin ?_; intro zb) | intro j')
 all_goals try refine zbx ?_
 refine v_loopB (fun ms1 S1 => ∃ (k : Nat), S1.e 0 = .p (.sl (.lent m0) (List.map (elI e0) (l))) ∧ S1.e 1 = .p (.fn g [] caps) ∧ S1.e 7 = .p (.int .i64 (l.length)) ∧ S1.e 8 = .p (.int .i64 (k)) ∧ (k ≤ l.length) ∧ (idxG p l 0 = idxG p (l.drop k) k) ∧ ms1 = l.length - k) ((fun (k : Nat) => l.length - k) (0)) ?_ ⟨0, dIa trivial ?_⟩
 all_goals try (refine zlf ?_; repeat' first | exact zso | refine And.intro ?_ ?_ | (refine zim ?_; intro zb hc) | (refine zin ?_; intro zb) | intro j')
 all_goals try refine zbx ?_
 rintro ms1 S1 ⟨k, h1_0, h1_1, h1_7, h1_8, c1_0, c1_1, hm1⟩
 have fL1 := (And.intro h1_0 (And.intro h1_1 (And.intro h1_7 h1_8)))
 have cE1 := @hp
 refine dEa fL1 ?_
 all_goals try (refine zlf ?_; repeat' first | exact zso | refine And.intro ?_ ?_ | (refine zim ?_; intro zb hc) | (refine zin ?_; intro zb) | intro j')
 all_goals try refine zbx ?_
 ·exact getD_mem hc
 ·rw [c1_1, dropL_at (by omega), idxG, if_pos hc]
 ·focus
   refine q_lp_n ((fun (k : Nat) => l.length - k) (k+1)) (dC fL1 ?_) ⟨k+1, dC fL1 ?_⟩
   all_goals try (refine zlf ?_; repeat' first | exact zso | refine And.intro ?_ ?_ | (refine zim ?_; intro zb hc) | (refine zin ?_; intro zb) | intro j')
   all_goals try refine zbx ?_
  rw [c1_1, dropL_at (by omega), idxG, if_neg (by rw [hc]; decide)]
 ·rw [c1_1, List.drop_of_length_le (by omega), idxG]
theorem slices_ContainsFunc_LLint_int_c {e0 m0 : Bool} (l : List (List Int)) (g : FuncId) (caps : List PV) (p : List Int → Bool) (hl : l.length ≤ 1099511627776) (hp : ∀ x ∈ l, Fun Tryz.prog g (.sl (.lent e0) (List.map (PV.int .i64) x) :: caps.map PV.cell) [.bool (p x)]) : Fun Tryz.prog 77 [(.sl (.lent m0) (List.map (elI e0) (l))), (.fn g [] caps)] [(.bool (l.any p))] := by
 refine fO sg0 [4] Tryz.func77 ?_
 have cE1 := @slices_IndexFunc_LLint_int_c
 have cE1 := (fun m0 => slices_IndexFunc_LLint_int_c (m0 := m0) l g caps p hl hp); have cE2 := @slices_IndexFunc_LLint_int_c
 refine dE trivial ?_
 all_goals try (refine zlf ?_; repeat' first | exact zso | refine And.intro ?_ ?_ | (refine zim ?_; intro zb hc) | (refine zin ?_; intro zb) | intro j')
 all_goals try refine zbx ?_
 rw [idxG_any]
end Go.Gl
set_option linter.unusedSimpArgs false
set_option linter.unusedVariables false
set_option maxRecDepth 20000
set_option linter.unusedSectionVars false
namespace Go.Gl
open Go Go.Proofs
variable [Amb]
/-- Does a place more agree with a pattern? (Places are counted from b.) -/
def fitK (b : Int) (p q c : List Int) (i : Int) (k : Nat) : Bool := (List.range k).all fun l => decide (q.getD l 0 < q.getD c.length 0) == decide (p.getD (c.getD l 0 - b).toNat 0 < p.getD (i - b).toNat 0)
def fitB (b : Int) (p q c : List Int) (i : Int) : Bool := fitK b p q c i c.length
theorem fitK_succ {b : Int} {p q c : List Int} {i : Int} {k : Nat} : fitK b p q c i (k + 1) = (fitK b p q c i k && (decide (q.getD k 0 < q.getD c.length 0) == decide (p.getD (c.getD k 0 - b).toNat 0 < p.getD (i - b).toNat 0))) := by
 simp [fitK, List.range_succ]
def fromI (b : Int) (c : List Int) : Int := if c.length = 0 then b else c.getD (c.length - 1) 0 + 1
/-- The occurrences that begin so, d places more. -/
def occ (b : Int) (p q : List Int) : Nat → List Int → List (List Int)
 | 0, c => [c]
 | d + 1, c => (List.range ((p.length : Int) + b - fromI b c).toNat).flatMap fun j : Nat => if fitB b p q c (fromI b c + j) = true then occ b p q d (c ++ [fromI b c + j]) else []
/-- .. the first J places looked at. -/
def occJ (b : Int) (p q : List Int) (d : Nat) (c : List Int) (J : Nat) : List (List Int) :=
 (List.range J).flatMap fun j : Nat => if fitB b p q c (fromI b c + j) = true then occ b p q d (c ++ [fromI b c + j]) else []
theorem occ_J {b : Int} {p q : List Int} {d : Nat} {c : List Int} : occ b p q (d + 1) c = occJ b p q d c ((p.length : Int) + b - fromI b c).toNat := rfl
theorem occJ_succ {b : Int} {p q : List Int} {d : Nat} {c : List Int} {J : Nat} : occJ b p q d c (J + 1) = occJ b p q d c J ++ if fitB b p q c (fromI b c + J) = true then occ b p q d (c ++ [fromI b c + J]) else [] := by
 simp [occJ, List.range_succ]
theorem from_snoc {b i : Int} {c : List Int} : fromI b (c ++ [i]) = i + 1 := by
 rw [fromI, if_neg (by simp)]; simp
theorem occ_len {b : Int} {p q : List Int} (hb : 0 ≤ b) : ∀ {d : Nat} {c : List Int}, b ≤ fromI b c → (occ b p q d c).length ≤ p.length ^ d
 | 0, c, _ => by simp [occ]
 | d + 1, c, hc => by
  have key : ∀ J, (occJ b p q d c J).length ≤ J * p.length ^ d := by
   intro J
   induction J with
   | zero => simp [occJ]
   | succ J ih =>
    rw [occJ_succ, List.length_append, Nat.succ_mul]
    split
    ·have := occ_len (q := q) (p := p) hb (d := d) (c := c ++ [fromI b c + J]) (by rw [from_snoc]; omega)
     omega
    ·simp; omega
  rw [occ_J, Nat.pow_succ, Nat.mul_comm]
  exact Nat.le_trans (key _) (Nat.mul_le_mul_right _ (by omega))
theorem occ_nil {b : Int} {p q : List Int} : ∀ {d : Nat} {c : List Int}, 1 ≤ d → (p.length : Int) + b < fromI b c + d → occ b p q d c = []
 | d + 1, c, _, h => by
  rw [occ, List.flatMap_eq_nil_iff]
  intro j hj
  rw [List.mem_range] at hj
  split
  ·exact occ_nil (by omega) (by rw [from_snoc]; omega)
  ·rfl
def hasB (p q : List Int) : Bool := !(occ 0 p q q.length []).isEmpty
theorem fitB_shift {p q c : List Int} {i : Int} : fitB 1 p q (c.map (· + 1)) (i + 1) = fitB 0 p q c i := by
 simp only [fitB, fitK, List.length_map]
 rw [Bool.eq_iff_iff, List.all_eq_true, List.all_eq_true]
 refine forall_congr' fun l => imp_congr_right fun hl => ?_
 rw [List.mem_range] at hl
 have e1 : (c.map (· + 1)).getD l 0 - 1 = c.getD l 0 - 0 := by
  rw [List.getD_eq_getElem?_getD, List.getElem?_map, List.getD_eq_getElem?_getD, List.getElem?_eq_getElem hl]; simp
 rw [e1, show i + 1 - 1 = i - 0 by omega]
theorem from_shift {c : List Int} : fromI 1 (c.map (· + 1)) = fromI 0 c + 1 := by
 unfold fromI
 rw [List.length_map]
 split
 ·rfl
 ·rename_i h
  rw [List.getD_eq_getElem?_getD, List.getElem?_map, List.getD_eq_getElem?_getD, List.getElem?_eq_getElem (by omega)]; simp
theorem occ_shift {p q : List Int} : ∀ {d : Nat} {c : List Int}, occ 1 p q d (c.map (· + 1)) = (occ 0 p q d c).map (List.map (· + 1))
 | 0, c => rfl
 | d + 1, c => by
  rw [occ, occ, from_shift, List.map_flatMap]
  rw [show ((p.length : Int) + 1 - (fromI 0 c + 1)) = p.length + 0 - fromI 0 c by omega]
  congr 1; funext j
  rw [show fromI 0 c + 1 + (j : Int) = (fromI 0 c + j) + 1 by omega, fitB_shift]
  split
  ·rw [show List.map (· + 1) c ++ [fromI 0 c + (j : Int) + 1] = List.map (· + 1) (c ++ [fromI 0 c + (j : Int)]) by simp, occ_shift]
  ·rfl
theorem fitK_mono {b : Int} {p q c : List Int} {i : Int} {k n : Nat} (hk : k ≤ n) (h : fitK b p q c i k = false) : fitK b p q c i n = false := by
 induction hk with
 | refl => exact h
 | step _ ih => rw [fitK_succ, ih]; rfl
theorem spec_l7Fits_c {m0 m1 m2 : Bool} (p q c : List Int) (i : Int) (hq : q.length ≤ 8) (hp : p.length ≤ 8) (hc0 : c.length < q.length) (hx : ∀ x ∈ c, 1 ≤ x ∧ x ≤ p.length) (hi : 1 ≤ i ∧ i ≤ p.length) : Fun Tryz.prog 126 [(.sl (.lent m0) (List.map (PV.int .i64) (p))), (.sl (.lent m1) (List.map (PV.int .i64) (q))), (.sl (.lent m2) (List.map (PV.int .i64) ((c ++ [i]))))] [(.bool (fitB 1 p q c i))] := by
 refine fO sg0 [6] Tryz.func126 ?_
 have e1 : (c ++ [i]).getD c.length 0 = i := by simp
 refine dEa trivial ?_
 all_goals try (refine zlf ?_; repeat' first | exact zso | refine And.intro ?_ ?_ | (refine zim ?_; intro zb hc) | (refine zin ?_; intro zb) | intro j')
 all_goals try refine zbx ?_
 refine v_loopB (fun ms1 S1 => ∃ (k : Nat), S1.e 0 = .p (.sl (.lent m0) (List.map (PV.int .i64) (p))) ∧ S1.e 1 = .p (.sl (.lent m1) (List.map (PV.int .i64) (q))) ∧ S1.e 2 = .p (.sl (.lent m2) (List.map (PV.int .i64) ((c ++ [i])))) ∧ S1.e 7 = .p (.int .i64 (c.length)) ∧ S1.e 8 = .p (.int .i64 (k)) ∧ (k ≤ c.length) ∧ (fitK 1 p q c i k = true) ∧ ms1 = c.length - k) ((fun (k : Nat) => c.length - k) (0)) ?_ ⟨0, dC trivial ?_⟩
 all_goals try (refine zlf ?_; repeat' first | exact zso | refine And.intro ?_ ?_ | (refine zim ?_; intro zb hc) | (refine zin ?_; intro zb) | intro j')
 all_goals try refine zbx ?_
 rintro ms1 S1 ⟨k, h1_0, h1_1, h1_2, h1_7, h1_8, c1_0, c1_1, hm1⟩
 have fL1 := (And.intro h1_0 (And.intro h1_1 (And.intro h1_2 (And.intro h1_7 h1_8))))
 by_cases hk : k < c.length
 ·have e2 : (c ++ [i]).getD k 0 = c.getD k 0 := by simp [List.getD_eq_getElem?_getD, List.getElem?_append_left hk]
  have e3 := hx _ (getD_mem (d := 0) hk)
  refine dEa (And.intro fL1 (And.intro @e1 @e2)) ?_
  all_goals try (refine zlf ?_; repeat' first | exact zso | refine And.intro ?_ ?_ | (refine zim ?_; intro zb hc) | (refine zin ?_; intro zb) | intro j')
  all_goals try refine zbx ?_
  ·exact (fitK_mono (k := k + 1) (by omega) (by rw [fitK_succ, c1_1, Bool.true_and]; simpa using hc)).symm
  ·focus
    refine q_lp_n ((fun (k : Nat) => c.length - k) (k+1)) (dC fL1 ?_) ⟨k+1, dC fL1 ?_⟩
    all_goals try (refine zlf ?_; repeat' first | exact zso | refine And.intro ?_ ?_ | (refine zim ?_; intro zb hc) | (refine zin ?_; intro zb) | intro j')
    all_goals try refine zbx ?_
   rw [fitK_succ, c1_1, Bool.true_and, beq_iff_eq]; simpa using hc
 ·refine dEa (And.intro fL1 @e1) ?_
  all_goals try (refine zlf ?_; repeat' first | exact zso | refine And.intro ?_ ?_ | (refine zim ?_; intro zb hc) | (refine zin ?_; intro zb) | intro j')
  all_goals try refine zbx ?_
  obtain rfl : k = c.length := by omega
  exact c1_1.symm
def sgFd : FuncId → List Bool := fun f => if f = 93 then [false, false, false, true] else if f = 8589934685 then [false, false, true] else []
theorem sgFd_eq {f : FuncId} : sgFd f = if f = 93 then [false, false, false, true] else if f = 8589934685 then [false, false, true] else [] := _root_.id rfl
theorem way_sgFd : wayE sgFd = false ∧ wayN sgFd = false ∧ wayS sgFd = false ∧ wayZ sgFd = false := ⟨rfl, rfl, rfl, rfl⟩
attribute [go_sem] sgFd_eq way_sgFd
theorem spec_l7Find_c {m0 m1 : Bool} (p q : List Int) (hp : p.length ≤ 8) (hq : q.length ≤ 8) : ∀ (d : Nat) (h : List Int) (out : List (List Int)), h.length + d = q.length → (∀ x ∈ h, 1 ≤ x ∧ x ≤ p.length) → out.length + 8 ^ d ≤ 1099511627776 →
  CallT Tryz.prog true 93 [.pv (.sl (.lent m0) (List.map (PV.int .i64) p)), .pv (.sl (.lent m1) (List.map (PV.int .i64) q)), .pv (.sl (.lent false) (List.map (PV.int .i64) h)), .mu false (List.map (elI false) out)] [none, none, none, none] [.sl .own (List.map (elI false) (out ++ occ 1 p q d h))] := by
 intro d
 induction d with
 | zero =>
  intro h out hd hx ho
  refine CallT.of (sg := sgFd) (ts := [8]) mo Tryz.func93 rfl rfl rfl rfl (by kernel_rfl) (by simp only [go_sem]) rfl rfl ?_
  have cE1 := @spec_l7Fits_c
  refine dTa trivial ?_
  all_goals try (refine zlf ?_; repeat' first | exact zso | refine And.intro ?_ ?_ | (refine zim ?_; intro zb hc) | (refine zin ?_; intro zb) | intro j')
  all_goals try refine zbx ?_
  all_goals (rw [tk1]; rfl)
 | succ d ih =>
  intro h out hd hx ho
  have f0 : 1 ≤ fromI 1 h ∧ fromI 1 h ≤ p.length + 1 := by
   unfold fromI
   split
   ·omega
   ·have := hx _ (getD_mem (d := 0) (show h.length - 1 < h.length by omega)); omega
  refine CallT.of (sg := sgFd) (ts := [8]) mo Tryz.func93 rfl rfl rfl rfl (by kernel_rfl) (by simp only [go_sem]) rfl rfl ?_
  have cE1 := @spec_l7Fits_c
  have lenJ : ∀ J : Nat, (J : Int) ≤ p.length + 1 - fromI 1 h → (occJ 1 p q d h J).length ≤ J * 8 ^ d := by
   intro J
   induction J with
   | zero => intro _; simp [occJ]
   | succ J ihJ =>
    intro hJ
    have h1 := ihJ (by omega)
    have h2 : (if fitB 1 p q h (fromI 1 h + J) = true then occ 1 p q d (h ++ [fromI 1 h + J]) else []).length ≤ 8 ^ d := by
     split
     ·exact Nat.le_trans (occ_len (by decide) (by rw [from_snoc]; omega)) (Nat.pow_le_pow_left hp d)
     ·exact Nat.zero_le _
    rw [occJ_succ, List.length_append, Nat.succ_mul]
    exact Nat.add_le_add h1 h2
  by_cases hn : h.length = 0
  ·have f1 : fromI 1 h = 1 := if_pos hn
   refine dTa @hn ?_
   all_goals try (refine zlf ?_; repeat' first | exact zso | refine And.intro ?_ ?_ | (refine zim ?_; intro zb hc) | (refine zin ?_; intro zb) | intro j')
   all_goals try refine zbx ?_
   refine v_loopB (fun ms1 S1 => ∃ (J : Nat), S1.e 0 = .p (.sl (.lent m0) (List.map (PV.int .i64) (p))) ∧ S1.e 1 = .p (.sl (.lent m1) (List.map (PV.int .i64) (q))) ∧ S1.e 2 = .p (.sl (.lent false) (List.map (PV.int .i64) (h))) ∧ OwnM (S1.e 3) S1.h S1.n (elI false) ((out ++ occJ 1 p q d h J).length) (out ++ occJ 1 p q d h J) ∧ S1.e 10 = .p (.int .i64 ((fromI 1 h + J))) ∧ ((J : Int) ≤ p.length + 1 - fromI 1 h) ∧ ms1 = p.length + 1 - J) ((fun (J : Nat) => p.length + 1 - J) (0)) ?_ ⟨0, dC trivial ?_⟩
   all_goals try (refine zlf ?_; repeat' first | exact zso | refine And.intro ?_ ?_ | (refine zim ?_; intro zb hc) | (refine zin ?_; intro zb) | intro j')
   all_goals try refine zbx ?_
   rintro ms1 S1 ⟨J, h1_0, h1_1, h1_2, o1_3, h1_10, c1_0, hm1⟩
   obtain ⟨i1_3, mm1_3, h1_3, b1_3, l1_3⟩ := o1_3.out
   have ni1_3 := znds (x := i1_3) (n := S1.n)
   have fL1 := (And.intro h1_0 (And.intro h1_1 (And.intro h1_2 (And.intro h1_10 (And.intro h1_3 (And.intro b1_3 ni1_3))))))
   have b1 := lenJ J (by omega)
   by_cases hJ : fromI 1 h + J ≤ p.length
   ·have cM1 := @ih
    refine dTa (And.intro fL1 @tk1) ?_
    all_goals try (refine zlf ?_; repeat' first | exact zso | refine And.intro ?_ ?_ | (refine zim ?_; intro zb hc) | (refine zin ?_; intro zb) | intro j')
    all_goals try refine zbx ?_
    ·intro x hx'
     rcases List.mem_append.1 hx' with hx' | hx'
     ·exact hx x hx'
     ·simp at hx'; subst hx'; omega
    ·have h8 : J + 1 ≤ 8 := by omega
     have h9 := Nat.mul_le_mul_right (8 ^ d) h8
     have h10 : 8 ^ (d + 1) = 8 * 8 ^ d := by rw [Nat.pow_succ, Nat.mul_comm]
     rw [Nat.succ_mul] at h9
     rw [List.length_append]; omega
    ·focus
      refine q_lp_n ((fun (J : Nat) => p.length + 1 - J) (J+1)) (dC fL1 ?_) ⟨J+1, dC fL1 ?_⟩
      all_goals try (refine zlf ?_; repeat' first | exact zso | refine And.intro ?_ ?_ | (refine zim ?_; intro zb hc) | (refine zin ?_; intro zb) | intro j')
      all_goals try refine zbx ?_
     all_goals (rw [occJ_succ, if_pos hc]; try simp only [List.length_append, List.append_assoc, Nat.add_assoc])
    ·focus
      refine q_lp_n ((fun (J : Nat) => p.length + 1 - J) (J+1)) (dC fL1 ?_) ⟨J+1, dC fL1 ?_⟩
      all_goals try (refine zlf ?_; repeat' first | exact zso | refine And.intro ?_ ?_ | (refine zim ?_; intro zb hc) | (refine zin ?_; intro zb) | intro j')
      all_goals try refine zbx ?_
     all_goals (rw [occJ_succ, if_neg (by rw [hc]; decide), List.append_nil])
   ·refine dTa fL1 ?_
    all_goals try (refine zlf ?_; repeat' first | exact zso | refine And.intro ?_ ?_ | (refine zim ?_; intro zb hc) | (refine zin ?_; intro zb) | intro j')
    all_goals try refine zbx ?_
    rw [occ_J, show ((p.length : Int) + 1 - fromI 1 h).toNat = J by omega]
   ·simp [occJ]
   ·simp [occJ]
  ·skip
   have f1 : fromI 1 h = h.getD (h.length - 1) 0 + 1 := if_neg hn
   have f2 : ((h.length : Int) - 1).toNat = h.length - 1 := by omega
   have g1 := hx _ (getD_mem (d := 0) (show h.length - 1 < h.length by omega))
   have cM1 := trivial
   refine dTa @f2 ?_
   all_goals try (refine zlf ?_; repeat' first | exact zso | refine And.intro ?_ ?_ | (refine zim ?_; intro zb hc) | (refine zin ?_; intro zb) | intro j')
   all_goals try refine zbx ?_
   refine v_loopB (fun ms2 S2 => ∃ (J : Nat), S2.e 0 = .p (.sl (.lent m0) (List.map (PV.int .i64) (p))) ∧ S2.e 1 = .p (.sl (.lent m1) (List.map (PV.int .i64) (q))) ∧ S2.e 2 = .p (.sl (.lent false) (List.map (PV.int .i64) (h))) ∧ OwnM (S2.e 3) S2.h S2.n (elI false) ((out ++ occJ 1 p q d h J).length) (out ++ occJ 1 p q d h J) ∧ S2.e 10 = .p (.int .i64 ((fromI 1 h + J))) ∧ ((J : Int) ≤ p.length + 1 - fromI 1 h) ∧ ms2 = p.length + 1 - J) ((fun (J : Nat) => p.length + 1 - J) (0)) ?_ ⟨0, dC trivial ?_⟩
   all_goals try (refine zlf ?_; repeat' first | exact zso | refine And.intro ?_ ?_ | (refine zim ?_; intro zb hc) | (refine zin ?_; intro zb) | intro j')
   all_goals try refine zbx ?_
   rintro ms2 S2 ⟨J, h2_0, h2_1, h2_2, o2_3, h2_10, c2_0, hm2⟩
   obtain ⟨i2_3, mm2_3, h2_3, b2_3, l2_3⟩ := o2_3.out
   have ni2_3 := znds (x := i2_3) (n := S2.n)
   have fL2 := (And.intro h2_0 (And.intro h2_1 (And.intro h2_2 (And.intro h2_10 (And.intro h2_3 (And.intro b2_3 ni2_3))))))
   have b1 := lenJ J (by omega)
   by_cases hJ : fromI 1 h + J ≤ p.length
   ·have cM1 := @ih
    refine dTa (And.intro fL2 @tk1) ?_
    all_goals try (refine zlf ?_; repeat' first | exact zso | refine And.intro ?_ ?_ | (refine zim ?_; intro zb hc) | (refine zin ?_; intro zb) | intro j')
    all_goals try refine zbx ?_
    ·intro x hx'
     rcases List.mem_append.1 hx' with hx' | hx'
     ·exact hx x hx'
     ·simp at hx'; subst hx'; omega
    ·have h8 : J + 1 ≤ 8 := by omega
     have h9 := Nat.mul_le_mul_right (8 ^ d) h8
     have h10 : 8 ^ (d + 1) = 8 * 8 ^ d := by rw [Nat.pow_succ, Nat.mul_comm]
     rw [Nat.succ_mul] at h9
     rw [List.length_append]; omega
    ·focus
      refine q_lp_n ((fun (J : Nat) => p.length + 1 - J) (J+1)) (dC fL2 ?_) ⟨J+1, dC fL2 ?_⟩
      all_goals try (refine zlf ?_; repeat' first | exact zso | refine And.intro ?_ ?_ | (refine zim ?_; intro zb hc) | (refine zin ?_; intro zb) | intro j')
      all_goals try refine zbx ?_
     all_goals (rw [occJ_succ, if_pos hc]; try simp only [List.length_append, List.append_assoc, Nat.add_assoc])
    ·focus
      refine q_lp_n ((fun (J : Nat) => p.length + 1 - J) (J+1)) (dC fL2 ?_) ⟨J+1, dC fL2 ?_⟩
      all_goals try (refine zlf ?_; repeat' first | exact zso | refine And.intro ?_ ?_ | (refine zim ?_; intro zb hc) | (refine zin ?_; intro zb) | intro j')
      all_goals try refine zbx ?_
     all_goals (rw [occJ_succ, if_neg (by rw [hc]; decide), List.append_nil])
   ·have cM1 := @ih
    refine dTa fL2 ?_
    all_goals try (refine zlf ?_; repeat' first | exact zso | refine And.intro ?_ ?_ | (refine zim ?_; intro zb hc) | (refine zin ?_; intro zb) | intro j')
    all_goals try refine zbx ?_
    rw [occ_J, show ((p.length : Int) + 1 - fromI 1 h).toNat = J by omega]
   ·simp [occJ]
   ·simp [occJ]
theorem occ_emp {p q : List Int} {d : Nat} {c : List Int} : (occ 1 p q d (c.map (· + 1))).length = (occ 0 p q d c).length := by rw [occ_shift, List.length_map]
theorem has_dec {p q : List Int} : decide (0 < ((occ 1 p q q.length []).length : Int)) = hasB p q := by
 have := occ_emp (p := p) (q := q) (d := q.length) (c := [])
 rw [List.map_nil] at this
 rw [this, hasB]
 cases occ 0 p q q.length [] with
 | nil => rfl
 | cons x l => simp
theorem spec_l7Has_c {m0 m1 : Bool} (p q : List Int) (hp : p.length ≤ 8) (hq : q.length ≤ 8) : Fun Tryz.prog 51 [(.sl (.lent m0) (List.map (PV.int .i64) (p))), (.sl (.lent m1) (List.map (PV.int .i64) (q)))] [(.bool (hasB p q))] := by
 refine fO sgFd [4] Tryz.func51 ?_
 have h9 := spec_l7Find_c (m0 := m0) (m1 := m1) p q hp hq q.length [] [] (Nat.zero_add _) (by simp) (by have h2 : 8 ^ q.length ≤ 8 ^ 8 := Nat.pow_le_pow_right (by omega) (by omega); simp only [List.length_nil, Nat.zero_add]; omega)
 simp only [List.map_nil, List.nil_append] at h9
 have cM1 := @h9
 refine dEa trivial ?_
 all_goals try (refine zlf ?_; repeat' first | exact zso | refine And.intro ?_ ?_ | (refine zim ?_; intro zb hc) | (refine zin ?_; intro zb) | intro j')
 all_goals try refine zbx ?_
 exact has_dec
theorem occ_end {b : Int} {p q : List Int} {d : Nat} {c : List Int} {J : Nat} (h1 : occJ b p q d c J = []) (h2 : ∀ j : Nat, J ≤ j → (j : Int) < p.length + b - fromI b c → occ b p q d (c ++ [fromI b c + j]) = []) : occ b p q (d + 1) c = [] := by
 rw [occ, List.flatMap_eq_nil_iff]
 intro j hj
 rw [List.mem_range] at hj
 by_cases hJ : j < J
 ·rw [occJ, List.flatMap_eq_nil_iff] at h1
  exact h1 j (List.mem_range.2 hJ)
 ·rw [h2 j (by omega) (by omega)]; split <;> rfl
theorem occ_hit {b : Int} {p q : List Int} {d : Nat} {c : List Int} {J : Nat} (hj : (J : Int) < p.length + b - fromI b c) (h1 : fitB b p q c (fromI b c + J) = true) (h2 : occ b p q d (c ++ [fromI b c + J]) ≠ []) : occ b p q (d + 1) c ≠ [] := by
 intro h
 rw [occ, List.flatMap_eq_nil_iff] at h
 have := h J (List.mem_range.2 (by omega))
 rw [if_pos h1] at this
 exact h2 this
set_option maxHeartbeats 1000000 in
theorem impl_has_c {m0 m1 : Bool} (p q : List Int) (hp : p.length ≤ 8) (hq : q.length ≤ 8) : ∀ (d : Nat) {m2 : Bool} (c : List Int), c.length + d = q.length → (∀ x ∈ c, 0 ≤ x ∧ x < p.length) →
  Fun Tryz.prog 65 [.sl (.lent m0) (List.map (PV.int .i64) p), .sl (.lent m1) (List.map (PV.int .i64) q), .sl (.lent m2) (List.map (PV.int .i64) c)] [.bool (!(occ 0 p q d c).isEmpty)] := by
 intro d
 induction d with
 | zero =>
  intro m2 c hd hx
  refine fO sg0 [6] Tryz.func65 ?_
  have cE1 := @slices_Clone_c
  refine dEa trivial ?_
  all_goals try (refine zlf ?_; repeat' first | exact zso | refine And.intro ?_ ?_ | (refine zim ?_; intro zb hc) | (refine zin ?_; intro zb) | intro j')
  all_goals try refine zbx ?_
  rfl
 | succ d ih =>
  intro m2 c hd hx
  have f0 : 0 ≤ fromI 0 c ∧ fromI 0 c ≤ p.length := by
   unfold fromI
   split
   ·omega
   ·have := hx _ (getD_mem (d := 0) (show c.length - 1 < c.length by omega)); omega
  by_cases hn : c.length = 0
  ·have f1 : fromI 0 c = 0 := if_pos hn
   refine fO sg0 [6] Tryz.func65 ?_
   have cE1 := @slices_Clone_c
   refine dEa @hn ?_
   all_goals try (refine zlf ?_; repeat' first | exact zso | refine And.intro ?_ ?_ | (refine zim ?_; intro zb hc) | (refine zin ?_; intro zb) | intro j')
   all_goals try refine zbx ?_
   refine v_loopB (fun ms1 S1 => ∃ (J : Nat), S1.e 0 = .p (.sl (.lent m0) (List.map (PV.int .i64) (p))) ∧ S1.e 1 = .p (.sl (.lent m1) (List.map (PV.int .i64) (q))) ∧ S1.e 2 = .p (.sl (.lent m2) (List.map (PV.int .i64) (c))) ∧ S1.e 8 = .p (.int .i64 (c.length)) ∧ S1.e 9 = .p (.int .i64 ((fromI 0 c + J))) ∧ ((J : Int) ≤ p.length - fromI 0 c) ∧ (occJ 0 p q d c J = []) ∧ ms1 = p.length - J) ((fun (J : Nat) => p.length - J) (0)) ?_ ⟨0, dIa trivial ?_⟩
   all_goals try (refine zlf ?_; repeat' first | exact zso | refine And.intro ?_ ?_ | (refine zim ?_; intro zb hc) | (refine zin ?_; intro zb) | intro j')
   all_goals try refine zbx ?_
   rintro ms1 S1 ⟨J, h1_0, h1_1, h1_2, h1_8, h1_9, c1_0, c1_1, hm1⟩
   have fL1 := (And.intro h1_0 (And.intro h1_1 (And.intro h1_2 (And.intro h1_8 h1_9))))
   refine dEa fL1 ?_
   all_goals try (refine zlf ?_; repeat' first | exact zso | refine And.intro ?_ ?_ | (refine zim ?_; intro zb hc) | (refine zin ?_; intro zb) | intro j')
   all_goals try refine zbx ?_
   ·refine v_loopB (fun ms2 S2 => ∃ (k : Nat), S2.e 0 = .p (.sl (.lent m0) (List.map (PV.int .i64) (p))) ∧ S2.e 1 = .p (.sl (.lent m1) (List.map (PV.int .i64) (q))) ∧ S2.e 2 = .p (.sl (.lent m2) (List.map (PV.int .i64) (c))) ∧ S2.e 8 = .p (.int .i64 (c.length)) ∧ S2.e 9 = .p (.int .i64 ((fromI 0 c + J))) ∧ S2.e 10 = .p (.bool (fitK 0 p q c (fromI 0 c + J) k)) ∧ S2.e 42 = .p (.sl (.lent m2) (List.map (PV.int .i64) (c))) ∧ S2.e 43 = .p (.int .i64 (c.length)) ∧ S2.e 44 = .p (.int .i64 (k)) ∧ (k ≤ c.length) ∧ ((J : Int) ≤ p.length - fromI 0 c - (d + 1)) ∧ S1.n ≤ S2.n ∧ ms2 = c.length - k) ((fun (k : Nat) => c.length - k) (0)) ?_ ⟨0, dC fL1 ?_⟩
    all_goals try (refine zlf ?_; repeat' first | exact zso | refine And.intro ?_ ?_ | (refine zim ?_; intro zb hc) | (refine zin ?_; intro zb) | intro j')
    all_goals try refine zbx ?_
    rintro ms2 S2 ⟨k, h2_0, h2_1, h2_2, h2_8, h2_9, h2_10, h2_42, h2_43, h2_44, c2_0, c2_1, u2_0, hm2⟩
    have fL2 := (And.intro h2_0 (And.intro h2_1 (And.intro h2_2 (And.intro h2_8 (And.intro h2_9 (And.intro h2_10 (And.intro h2_42 (And.intro h2_43 h2_44))))))))
    by_cases hk : k < c.length
    ·omega
    ·have g4 : k = c.length := by omega
     have ih1 := fun (m : Bool) => ih (m2 := m) (c ++ [fromI 0 c + J]) (by simp; omega) (by
      intro x hx'
      rcases List.mem_append.1 hx' with hx' | hx'
      ·exact hx x hx'
      ·simp at hx'; subst hx'; omega)
     have cE1 := @ih1; have cE2 := @slices_Clone_c
     refine dEa (And.intro fL2 @tk1) ?_
     all_goals try (refine zlf ?_; repeat' first | exact zso | refine And.intro ?_ ?_ | (refine zim ?_; intro zb hc) | (refine zin ?_; intro zb) | intro j')
     all_goals try refine zbx ?_
     ·subst g4
      have o1 := occ_hit (b := 0) (p := p) (q := q) (d := d) (c := c) (J := J) (by omega) zb.1 (fun e => by rw [e] at hc; cases hc)
      cases ho : occ 0 p q (d + 1) c with
      | nil => exact absurd ho o1
      | cons _ _ => rfl
     ·focus
       refine q_lp_n ((fun (J : Nat) => p.length - J) (J+1)) (dC fL2 ?_) ⟨J+1, dC fL2 ?_⟩
       all_goals try (refine zlf ?_; repeat' first | exact zso | refine And.intro ?_ ?_ | (refine zim ?_; intro zb hc) | (refine zin ?_; intro zb) | intro j')
       all_goals try refine zbx ?_
      have o2 : occ 0 p q d (c ++ [fromI 0 c + J]) = [] := by simpa using hc
      rw [occJ_succ, c1_1, o2]; split <;> rfl
     ·focus
       refine q_lp_n ((fun (J : Nat) => p.length - J) (J+1)) (dC fL2 ?_) ⟨J+1, dC fL2 ?_⟩
       all_goals try (refine zlf ?_; repeat' first | exact zso | refine And.intro ?_ ?_ | (refine zim ?_; intro zb hc) | (refine zin ?_; intro zb) | intro j')
       all_goals try refine zbx ?_
      subst g4
      rw [occJ_succ, c1_1, if_neg (by rw [fitB, hc]; decide)]; rfl
   ·have o3 : occ 0 p q (d + 1) c = [] := occ_end c1_1 fun j hj hj2 => by
     by_cases h0 : d = 0
     ·omega
     ·exact occ_nil (by omega) (by rw [from_snoc]; omega)
    rw [o3]; rfl
  ·skip
   have f1 : fromI 0 c = c.getD (c.length - 1) 0 + 1 := if_neg hn
   have f2 : ((c.length : Int) - 1).toNat = c.length - 1 := by omega
   have g1 := hx _ (getD_mem (d := 0) (show c.length - 1 < c.length by omega))
   refine fO sg0 [6] Tryz.func65 ?_
   have cE1 := @slices_Clone_c
   refine dEa @f2 ?_
   all_goals try (refine zlf ?_; repeat' first | exact zso | refine And.intro ?_ ?_ | (refine zim ?_; intro zb hc) | (refine zin ?_; intro zb) | intro j')
   all_goals try refine zbx ?_
   refine v_loopB (fun ms3 S3 => ∃ (J : Nat), S3.e 0 = .p (.sl (.lent m0) (List.map (PV.int .i64) (p))) ∧ S3.e 1 = .p (.sl (.lent m1) (List.map (PV.int .i64) (q))) ∧ S3.e 2 = .p (.sl (.lent m2) (List.map (PV.int .i64) (c))) ∧ S3.e 8 = .p (.int .i64 (c.length)) ∧ S3.e 9 = .p (.int .i64 ((fromI 0 c + J))) ∧ ((J : Int) ≤ p.length - fromI 0 c) ∧ (occJ 0 p q d c J = []) ∧ ms3 = p.length - J) ((fun (J : Nat) => p.length - J) (0)) ?_ ⟨0, dIa trivial ?_⟩
   all_goals try (refine zlf ?_; repeat' first | exact zso | refine And.intro ?_ ?_ | (refine zim ?_; intro zb hc) | (refine zin ?_; intro zb) | intro j')
   all_goals try refine zbx ?_
   rintro ms3 S3 ⟨J, h3_0, h3_1, h3_2, h3_8, h3_9, c3_0, c3_1, hm3⟩
   have fL3 := (And.intro h3_0 (And.intro h3_1 (And.intro h3_2 (And.intro h3_8 h3_9))))
   refine dEa fL3 ?_
   all_goals try (refine zlf ?_; repeat' first | exact zso | refine And.intro ?_ ?_ | (refine zim ?_; intro zb hc) | (refine zin ?_; intro zb) | intro j')
   all_goals try refine zbx ?_
   ·refine v_loopB (fun ms4 S4 => ∃ (k : Nat), S4.e 0 = .p (.sl (.lent m0) (List.map (PV.int .i64) (p))) ∧ S4.e 1 = .p (.sl (.lent m1) (List.map (PV.int .i64) (q))) ∧ S4.e 2 = .p (.sl (.lent m2) (List.map (PV.int .i64) (c))) ∧ S4.e 8 = .p (.int .i64 (c.length)) ∧ S4.e 9 = .p (.int .i64 ((fromI 0 c + J))) ∧ S4.e 10 = .p (.bool (fitK 0 p q c (fromI 0 c + J) k)) ∧ S4.e 42 = .p (.sl (.lent m2) (List.map (PV.int .i64) (c))) ∧ S4.e 43 = .p (.int .i64 (c.length)) ∧ S4.e 44 = .p (.int .i64 (k)) ∧ (k ≤ c.length) ∧ ((J : Int) ≤ p.length - fromI 0 c - (d + 1)) ∧ S3.n ≤ S4.n ∧ ms4 = c.length - k) ((fun (k : Nat) => c.length - k) (0)) ?_ ⟨0, dC fL3 ?_⟩
    all_goals try (refine zlf ?_; repeat' first | exact zso | refine And.intro ?_ ?_ | (refine zim ?_; intro zb hc) | (refine zin ?_; intro zb) | intro j')
    all_goals try refine zbx ?_
    rintro ms4 S4 ⟨k, h4_0, h4_1, h4_2, h4_8, h4_9, h4_10, h4_42, h4_43, h4_44, c4_0, c4_1, u4_0, hm4⟩
    have fL4 := (And.intro h4_0 (And.intro h4_1 (And.intro h4_2 (And.intro h4_8 (And.intro h4_9 (And.intro h4_10 (And.intro h4_42 (And.intro h4_43 h4_44))))))))
    by_cases hk : k < c.length
    ·have g2 := hx _ (getD_mem (d := 0) hk)
     have g3 : (decide (p.getD (c.getD k 0).toNat 0 < p.getD (fromI 0 c + J).toNat 0) == decide (q.getD k 0 < q.getD c.length 0)) = (decide (q.getD k 0 < q.getD c.length 0) == decide (p.getD (c.getD k 0 - 0).toNat 0 < p.getD (fromI 0 c + J - 0).toNat 0)) := by
      rw [Int.sub_zero, Int.sub_zero, Bool.eq_iff_iff, beq_iff_eq, beq_iff_eq]; exact eq_comm
     refine dEa fL4 ?_
     all_goals try (refine zlf ?_; repeat' first | exact zso | refine And.intro ?_ ?_ | (refine zim ?_; intro zb hc) | (refine zin ?_; intro zb) | intro j')
     all_goals try refine zbx ?_
     ·focus
       refine q_lp_n ((fun (k : Nat) => c.length - k) (k+1)) (dC fL4 ?_) ⟨k+1, dC fL4 ?_⟩
       all_goals try (refine zlf ?_; repeat' first | exact zso | refine And.intro ?_ ?_ | (refine zim ?_; intro zb hc) | (refine zin ?_; intro zb) | intro j')
       all_goals try refine zbx ?_
      rw [fitK_succ, hc, Bool.true_and]; exact g3
     ·focus
       refine q_lp_n ((fun (k : Nat) => c.length - k) (k+1)) (dC fL4 ?_) ⟨k+1, dC fL4 ?_⟩
       all_goals try (refine zlf ?_; repeat' first | exact zso | refine And.intro ?_ ?_ | (refine zim ?_; intro zb hc) | (refine zin ?_; intro zb) | intro j')
       all_goals try refine zbx ?_
      rw [fitK_succ, hc]; rfl
    ·have g4 : k = c.length := by omega
     have ih1 := fun (m : Bool) => ih (m2 := m) (c ++ [fromI 0 c + J]) (by simp; omega) (by
      intro x hx'
      rcases List.mem_append.1 hx' with hx' | hx'
      ·exact hx x hx'
      ·simp at hx'; subst hx'; omega)
     have cE1 := @ih1; have cE2 := @slices_Clone_c
     refine dEa (And.intro fL4 @tk1) ?_
     all_goals try (refine zlf ?_; repeat' first | exact zso | refine And.intro ?_ ?_ | (refine zim ?_; intro zb hc) | (refine zin ?_; intro zb) | intro j')
     all_goals try refine zbx ?_
     ·subst g4
      have o1 := occ_hit (b := 0) (p := p) (q := q) (d := d) (c := c) (J := J) (by omega) zb.1 (fun e => by rw [e] at hc; cases hc)
      cases ho : occ 0 p q (d + 1) c with
      | nil => exact absurd ho o1
      | cons _ _ => rfl
     ·focus
       refine q_lp_n ((fun (J : Nat) => p.length - J) (J+1)) (dC fL4 ?_) ⟨J+1, dC fL4 ?_⟩
       all_goals try (refine zlf ?_; repeat' first | exact zso | refine And.intro ?_ ?_ | (refine zim ?_; intro zb hc) | (refine zin ?_; intro zb) | intro j')
       all_goals try refine zbx ?_
      have o2 : occ 0 p q d (c ++ [fromI 0 c + J]) = [] := by simpa using hc
      rw [occJ_succ, c3_1, o2]; split <;> rfl
     ·focus
       refine q_lp_n ((fun (J : Nat) => p.length - J) (J+1)) (dC fL4 ?_) ⟨J+1, dC fL4 ?_⟩
       all_goals try (refine zlf ?_; repeat' first | exact zso | refine And.intro ?_ ?_ | (refine zim ?_; intro zb hc) | (refine zin ?_; intro zb) | intro j')
       all_goals try refine zbx ?_
      subst g4
      rw [occJ_succ, c3_1, if_neg (by rw [fitB, hc]; decide)]; rfl
   ·have o3 : occ 0 p q (d + 1) c = [] := occ_end c3_1 fun j hj hj2 => by
     by_cases h0 : d = 0
     ·omega
     ·exact occ_nil (by omega) (by rw [from_snoc]; omega)
    rw [o3]; rfl
end Go.Gl
