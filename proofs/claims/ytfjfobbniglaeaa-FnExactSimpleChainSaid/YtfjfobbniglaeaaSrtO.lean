/-
 Rows of a slice's own put in order by the library: the shelf's contract told as a moving about of headers. Conditions: those that each lemma names.
-/
import Derived.Test.YtfjfobbniglaeaaSrtA
import Derived.Test.YtfjfobbniglaeaaShelfT
set_option linter.unusedSimpArgs false
set_option linter.unusedVariables false
set_option maxRecDepth 20000
set_option linter.unusedSectionVars false
namespace Go.Gl
open Go Go.Proofs
variable [Amb] [NoQ]
section
open Go.Sort
set_option maxHeartbeats 1000000 in
theorem srt_own {P : Program} {f g : FuncId} {fn : Func} (hf : P.funcs[f]? = some fn) (hb : fn.body.isSome = true) (hn : (fn.name == "runtime.NumGoroutine") = false)
  (hs : ∀ {α : Type} [Inhabited α] (enc : α → Value) (_ : OneCell enc) (cf : α → α → Int) (_ : SWO (ltOf cf)) (blk off cap : Nat) (d : Array α) (w : World) (_ : CmpLays1 P g #[] enc cf blk off d.size w) (_ : Holds enc w blk off d) (_ : blk < w.heap.size) (_ : d.size < 4611686018427387904),
   Calls P f #[.slice (some ⟨blk, off, none⟩) d.size cap, .func (.func g) #[] #[]] w fun e w' => e = .returned (.tuple #[]) ∧ ∃ d' n os, PermIn 0 d.size d d' ∧ SortedIn (ltOf cf) 0 d.size d' ∧ w' = sortWorld enc w blk off n d' os)
  (hc : ∀ (p q : List Int), p.length ≤ 1048576 → q.length ≤ 1048576 → @Fun ambQ P g [.sl .ro (p.map (PV.int .i64)), .sl .ro (q.map (PV.int .i64))] [.int .i64 (cmpP p q)]) : SrtD P f g isortL := by
 refine ⟨⟨fn, hf, hb, hn⟩, ?_⟩
 intro w B off cap L hd cs E lo hi hcell hfit hfr h0 hL hl hh
 have hBlt : B < w.heap.size := by
  rcases Nat.lt_or_ge B w.heap.size with h1 | h1
  ·exact h1
  ·rw [Array.getElem?_eq_none h1] at hcell; cases hcell
 let enc : _root_.Fin L.length → Value := fun j => hd j.1
 haveI : Inhabited (_root_.Fin L.length) := ⟨⟨0, h0⟩⟩
 let d : Array (_root_.Fin L.length) := Array.ofFn fun i => i
 have hd0 : d.size = L.length := Array.size_ofFn
 have hda : ∀ j (h : j < L.length), d[j]! = ⟨j, h⟩ := fun j h => by
  rw [getElem!_pos d j (by rw [hd0]; exact h)]; exact Array.getElem_ofFn _
 have hdl : d.toList.map (fun i => i.1) = List.range L.length := by
  apply List.ext_getElem?
  intro k
  rw [List.getElem?_map]
  by_cases hk : k < L.length
  ·rw [Array.getElem?_toList, Array.getElem?_eq_getElem (by rw [hd0]; exact hk), List.getElem?_range hk]
   simp only [Option.map_some, d, Array.getElem_ofFn]
  ·rw [Array.getElem?_toList, Array.getElem?_eq_none (by rw [hd0]; omega), List.getElem?_eq_none (by simp; omega)]; rfl
 have hst : ∀ (m : Nat) (dk : Array (_root_.Fin L.length)) (os : Array Obj) (B' o : Nat) (v : Value), ¬ B' = B → w.cell? ⟨B', o, none⟩ = some v → (sortWorld enc w B off m dk os).cell? ⟨B', o, none⟩ = some v := fun m dk os B' o v hF hv => by
  rw [cell?_eq, sw_other (cell?_lt hv) hF, ← cell?_eq]; exact hv
 have hcmp : CmpLays1 P g #[] enc (fun i j : _root_.Fin L.length => cmpP (L.getD i.1 []) (L.getD j.1 [])) B off d.size w := by
  intro m os dk _ x y
  have hx : ∀ z : _root_.Fin L.length, RepP (sortWorld enc w B off m dk os) (fun _ => False) (fun _ => True) (.sl .ro ((L.getD z.1 []).map (PV.int .i64))) (enc z) := fun z =>
   RepP.tr (F' := fun _ => False) (G' := fun _ => True) (w' := sortWorld enc w B off m dk os) (fun B o v hF hv => ⟨hst m dk os B o v hF hv, fun h => h⟩) (fun _ _ _ _ => trivial) _ _ (hh z.1 z.2).2.2
  have hlen : ∀ z : _root_.Fin L.length, (L.getD z.1 []).length ≤ 1048576 := fun z => hl _ (getD_mem z.2)
  exact Fun.callsQ (hc (L.getD x.1 []) (L.getD y.1 []) (hlen x) (hlen y)) (sortWorld enc w B off m dk os) (vs := [enc x, enc y]) (by
   simp only [RepL]
   exact ⟨_, _, rfl, hx x, _, _, rfl, hx y, rfl⟩)
 have hH : Holds enc w B off d := by
  intro j hj
  rw [hd0] at hj
  rw [hda j hj]
  refine ⟨by rw [cell?_eq, hcell]; exact (hh j hj).1, ?_⟩
  simp only [World.frozen?, hcell]
  simp; omega
 have key := hs enc (fun j => (hh j.1 j.2).2.1) (fun i j : _root_.Fin L.length => cmpP (L.getD i.1 []) (L.getD j.1 [])) (swo_rows L) B off cap d w hcmp hH hBlt (by omega)
 rw [hd0] at key
 refine key.mono ?_
 rintro e w' ⟨rfl, d', n, os, hp, hsrt, rfl⟩
 obtain ⟨p1, _, p3⟩ := hp
 have hd' : d'.size = L.length := by rw [p1, hd0]
 have hperm : (d'.toList.map fun i => i.1).Perm (List.range L.length) := by
  have e1 : (d'.extract 0 L.length).toList = d'.toList := by rw [ext_all d' hd']
  have e2 : (d.extract 0 L.length).toList = d.toList := by rw [ext_all d hd0]
  rw [e1, e2] at p3
  have := p3.map fun i => i.1
  rwa [hdl] at this
 have hws : WS (d'.toList.map fun i => L.getD i.1 []) := by
  rw [WS, List.pairwise_map, List.pairwise_iff_getElem]
  intro i j hi hj hij
  have := hsrt i j (Nat.zero_le _) hij (by rw [← hd']; simpa using hj)
  rw [getElem!_pos d' j (by simpa using hj), getElem!_pos d' i (by simpa using hi)] at this
  exact this
 have hrange : (List.range L.length).map (fun i => L.getD i []) = L := by
  apply List.ext_getElem?
  intro k
  rw [List.getElem?_map]
  by_cases hk : k < L.length
  ·rw [List.getElem?_range hk, List.getElem?_eq_getElem hk]; simp [hk]
  ·rw [List.getElem?_eq_none (by simp; omega), List.getElem?_eq_none (by omega)]; rfl
 have hrows := isort_of (L := L) hws (by
  have := hperm.map fun i => L.getD i []
  rw [List.map_map, hrange] at this
  exact this)
 refine ⟨rfl, d'.toList.map (fun i => i.1), hperm, by rw [← hrows, List.map_map]; rfl, rfl, rfl, rfl, by rw [sw_size]; omega, sw_drawn, fun k hk hne => sw_other hk hne, _, sw_at hcell, by simp [putCells], fun j hj => ?_⟩
 have hcs : off + j < cs.size := by omega
 simp only [putCells, Array.getElem?_mapIdx]
 rw [Array.getElem?_eq_getElem hcs]
 simp only [Option.map_some]
 rw [if_pos ⟨by omega, by omega⟩, show off + j - off = j by omega, getElem!_pos d' j (by omega), List.getD_eq_getElem?_getD, List.getElem?_map, Array.getElem?_toList, Array.getElem?_eq_getElem (by omega)]; rfl
end
theorem sort_own : SrtD Try.prog 125 118 isortL :=
 srt_own (g := 118) Try.func125 rfl rfl
  (fun enc h1 cf hO blk off cap d w hcmp hH hblk hsz => Try.sort_all enc h1 cf hO 118 #[] blk off cap d w (enters_of Try.func118 (by kernel_rfl) rfl) hcmp hH hblk hsz)
  (fun p q hp hq => @impl_comparePerms_c ambQ true true p q hp hq)
end Go.Gl
