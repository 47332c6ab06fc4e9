/-
  The library's slices.Replace of one number by some, in the world's words: its five roads. Conditions: those that each lemma names.
-/
import Derived.Test.YtfjfobbniglaeaaDoorA0
import Derived.Shelf.Spec.SlicesInsertGrow
import Derived.Deep.Draws
set_option linter.unusedSimpArgs false
set_option linter.unusedVariables false
set_option maxRecDepth 20000
set_option linter.unusedSectionVars false
namespace Go.Gl
open Go Go.Proofs Go.Shelf Go.RowKit Go.Lib
variable [Amb]
theorem rpT : Tryd.prog.underlying 24 = some (.slice 3) := by kernel_rfl
theorem rpI : Tryd.prog.underlying 3 = some (.int .i64) := by kernel_rfl
theorem rpJ : (Tryd.prog.info? 3).map (fun i => (i.zero, i.size, i.bytes)) = some (some (.int .i64 0), 1, 8) := by kernel_rfl
set_option maxHeartbeats 4000000 in
set_option maxRecDepth 100000 in
theorem rpl_end_room (b off n c i vb voff m vc : Nat) (vs : List Value) (w : World) (hi : i + 1 = n) (hm : 0 < m) (hnc : n ≤ c) (hroom : i + m ≤ c) (hc63 : c ≤ 9223372036854775807)
    (hvl : vs.length = m) (hsp : ∀ j, j < m → (w.cell? ⟨b, off + i + j, none⟩).isSome = true) (hfz : ∀ j, j < m → w.frozen? ⟨b, off + i + j, none⟩ = false)
    (hvs : ∀ j v, vs[j]? = some v → w.cell? ⟨vb, voff + j, none⟩ = some v) (h1v : ∀ v ∈ vs, v.oneCell' = true) :
    Calls Tryd.prog 33 #[.slice (some ⟨b, off, none⟩) n c, .int .i64 i, .int .i64 n, .slice (some ⟨vb, voff, none⟩) m vc] w fun e w' =>
      e = .returned (.slice (some ⟨b, off, none⟩) (i + m) c) ∧ w' = w.setCells b (off + i) vs := by
  obtain ⟨i0, hi0, hz0, hzs, hzb⟩ := info_parts rpJ
  have hz1 : ¬ ((i : Int) = (n : Int)) := by omega
  have hin : (i : Int) ≤ (n : Int) := by omega
  have hin' : i ≤ n := by omega
  have hlt : ¬ (((i + m : Nat) : Int) < (n : Int)) := by omega
  have hlt2 : ¬ (i + m < n) := by omega
  have hsrc : Go.Src Tryd.prog 1 24 (.slice (some ⟨vb, voff, none⟩) m vc) m vs w := Go.Src.ofSlice w rpT ⟨vb, voff, none⟩ m vc vs (by omega) (fun j u hj => by rw [Addr.add_lit]; exact hvs j u hj) h1v
  go_enter Tryd.func33, Tryd.ntmps33
  go_wp2_with (at_builtin; refine wpList_append_room1 _ rfl _ _ 24 24 rfl 3 _ _ rpT rpJ b off i c rfl _ rfl m vs hsrc hroom (by rw [hvl]; exact hsp) (by rw [hvl]; exact hfz) ?_)
  go_ret
  exact ⟨rfl, rfl⟩
set_option maxHeartbeats 4000000 in
set_option maxRecDepth 100000 in
theorem rpl_end_grow (b off n c i vb voff m vc : Nat) (cs vs : List Value) (w : World) (hi : i + 1 = n) (hm : 0 < m) (hnc : n ≤ c) (hroom : c < i + m) (hbig : (n + m) * 8 ≤ 140737488355328)
    (hcl : cs.length = i) (hvl : vs.length = m)
    (hcs : ∀ j v, cs[j]? = some v → w.cell? ⟨b, off + j, none⟩ = some v)
    (hvs : ∀ j v, vs[j]? = some v → w.cell? ⟨vb, voff + j, none⟩ = some v) (h1v : ∀ v ∈ vs, v.oneCell' = true) :
    Calls Tryd.prog 33 #[.slice (some ⟨b, off, none⟩) n c, .int .i64 i, .int .i64 n, .slice (some ⟨vb, voff, none⟩) m vc] w fun e w' =>
      e = .returned (.slice (some ⟨w.heap.size, 0, none⟩) (i + m) (grownCap w (i + m) c 3)) ∧
      w' = w.drew.alloc (.cells ((cs ++ vs).toArray ++ Builtin.zeroCells (Value.int .i64 0).cells (grownCap w (i + m) c 3 - (i + m))) 3) := by
  obtain ⟨i0, hi0, hz0, hzs, hzb⟩ := info_parts rpJ
  have hz1 : ¬ ((i : Int) = (n : Int)) := by omega
  have hin : (i : Int) ≤ (n : Int) := by omega
  have hin' : i ≤ n := by omega
  have hlt2 : ¬ (i + m < n) := by omega
  have hsrc : Go.Src Tryd.prog i0.size 24 (.slice (some ⟨vb, voff, none⟩) m vc) m vs w := by
    rw [hzs]
    exact Go.Src.ofSlice w rpT ⟨vb, voff, none⟩ m vc vs (by omega) (fun j u hj => by rw [Addr.add_lit]; exact hvs j u hj) h1v
  have hold : (Builtin.firstCells i0.size i (.slice (some ⟨b, off, none⟩) i c)).run Tryd.prog w.drew = .ok cs.toArray w.drew := by
    rw [hzs]
    exact run_firstCells_some w.drew 1 i ⟨b, off, none⟩ i c cs (by omega) (fun j v hj => by rw [Addr.add_lit]; exact hcs j v hj)
  have hrun : ∀ ty, (Builtin.append_ #[24, 24] ty #[.slice (some ⟨b, off, none⟩) i c, .slice (some ⟨vb, voff, none⟩) m vc]).run Tryd.prog w = _ := fun ty =>
    run_append_grow_src w 24 24 ty 3 i0 _ rpT hi0 hz0 (some ⟨b, off, none⟩) i c cs hold _ m vs hsrc hroom (by omega) (by rw [hzb]; exact growslice_fits hroom (by omega))
  go_enter Tryd.func33, Tryd.ntmps33
  go_wp2_with (at_builtin; refine Lib.wpList_append_run _ rfl _ _ _ _ rfl _ _ rfl rfl _ _ (hrun _) ?_)
  go_ret
  exact ⟨rfl, rfl⟩
theorem run_clear0 (W : World) (a : Option Addr) (c : Nat) : (Builtin.clear_ #[24] 0 #[.slice a 0 c]).run Tryd.prog W = .ok (.tuple #[]) W := by
  cases a <;> simp [Builtin.clear_, run_underlying rpT, Sem.run_bind, Sem.run_pure]
set_option maxHeartbeats 4000000 in
set_option maxRecDepth 100000 in
theorem rpl_mid_one (b off n c i vb voff vc : Nat) (cs vs : List Value) (w : World) (hi : i + 1 < n) (hnc : n ≤ c) (hc63 : c ≤ 9223372036854775807) (hvb : vb ≠ b)
    (hcl : cs.length = n) (hvl : vs.length = 1)
    (hcs : ∀ j v, cs[j]? = some v → w.cell? ⟨b, off + j, none⟩ = some v) (hfz : ∀ j, j < n → w.frozen? ⟨b, off + j, none⟩ = false)
    (hvs : ∀ j v, vs[j]? = some v → w.cell? ⟨vb, voff + j, none⟩ = some v) (h1c : ∀ v ∈ cs, v.oneCell' = true) (h1v : ∀ v ∈ vs, v.oneCell' = true) :
    Calls Tryd.prog 33 #[.slice (some ⟨b, off, none⟩) n c, .int .i64 i, .int .i64 ((i + 1 : Nat) : Int), .slice (some ⟨vb, voff, none⟩) 1 vc] w fun e w' =>
      e = .returned (.slice (some ⟨b, off, none⟩) n c) ∧ ∃ k, w' = ((w.drewN k).setCells b (off + i) vs).setCells b (off + (i + 1)) (cs.drop (i + 1)) := by
  obtain ⟨i0, hi0, hz0, hzs, hzb⟩ := info_parts rpJ
  have hz1 : ¬ ((i : Int) = (i : Int) + 1) := by omega
  have hz2 : ¬ ((i : Int) + 1 = (n : Int)) := by omega
  have hin : (i : Int) ≤ (n : Int) := by omega
  have hin' : i ≤ n := by omega
  have hin2 : (i : Int) + 1 ≤ (n : Int) := by omega
  have hin2' : i + 1 ≤ n := by omega
  have hsz : (Tryd.prog.info? 3).map (·.size) = some 1 := by rw [hi0]; simp [hzs]
  have hdl : (cs.drop (i + 1)).length = n - (i + 1) := by rw [List.length_drop, hcl]
  have hsp : ∀ j, j < n → (w.cell? ⟨b, off + j, none⟩).isSome = true := fun j hj => by
    rw [hcs j _ (List.getElem?_eq_getElem (by omega))]; rfl
  have hcp1 : ∀ (W : World), (∀ x, W.cell? x = w.cell? x) → (∀ x, W.frozen? x = w.frozen? x) → ∀ ty dl dc, 1 ≤ dl → (Builtin.copy_ #[24, 24] ty #[.slice (some ⟨b, off + i, none⟩) dl dc, .slice (some ⟨vb, voff, none⟩) 1 vc]).run Tryd.prog W = .ok (goInt vs.length) (W.setCells b (off + i) vs) := fun W hWc hWf ty dl dc hdl1 =>
    run_copy_cells W _ _ ty 3 b (off + i) dl dc ⟨vb, voff, none⟩ 1 vc vs rpT hsz (by rw [hvl]; simp only [Nat.min_def]; split <;> omega)
      (fun j v hj => by rw [Addr.add_lit, hWc]; exact hvs j v hj)
      (fun j hj => by rw [hWc, Nat.add_assoc]; exact hsp _ (by omega)) (fun j hj => by rw [hWf, Nat.add_assoc]; exact hfz _ (by omega)) h1v
  have hcp2 : ∀ (W0 W : World), (∀ x, W0.cell? x = w.cell? x) → (∀ x, W0.frozen? x = w.frozen? x) → (∀ x, W.cell? x = (W0.setCells b (off + i) vs).cell? x) → (∀ x, W.frozen? x = (W0.setCells b (off + i) vs).frozen? x) → ∀ ty dl dc sc, n - (i + 1) ≤ dl → (Builtin.copy_ #[24, 24] ty #[.slice (some ⟨b, off + (i + 1), none⟩) dl dc, .slice (some ⟨b, off + (i + 1), none⟩) (n - (i + 1)) sc]).run Tryd.prog W = .ok (goInt (cs.drop (i + 1)).length) (W.setCells b (off + (i + 1)) (cs.drop (i + 1))) := fun W0 W h0c h0f hWc hWf ty dl dc sc hdl1 =>
    run_copy_cells W _ _ ty 3 b (off + (i + 1)) dl dc ⟨b, off + (i + 1), none⟩ (n - (i + 1)) sc (cs.drop (i + 1)) rpT hsz (by rw [hdl]; simp only [Nat.min_def]; split <;> omega)
      (fun j v hj => by
        rw [Addr.add_lit, hWc, World.cell?_setCells_out b vs _ _ _ (fun _ _ => by show _ < off + i ∨ off + i + vs.length ≤ _; simp only; omega), h0c, Nat.add_assoc]
        exact hcs (i + 1 + j) v (by rwa [List.getElem?_drop] at hj))
      (fun j hj => by rw [hWc]; exact isSome_setCells b _ _ _ (fun q hq => by rw [h0c, Nat.add_assoc]; exact hsp _ (by omega)) _ (by rw [h0c, Nat.add_assoc]; exact hsp _ (by omega)))
      (fun j hj => by rw [hWf, World.frozen?_setCells, h0f, Nat.add_assoc]; exact hfz _ (by omega)) (fun v hv => h1c v (List.mem_of_mem_drop hv))
  have hw1 : IntKind.i64.wrap ((i : Int) + 1) = (i : Int) + 1 := by rw [IntKind.wrap_i64]; omega
  have hb1 : (0 : Int) ≤ (i : Int) + 1 := by omega
  have htn : ((i : Int) + 1).toNat = i + 1 := by omega
  have hb2 : ¬ (c = i + 1) := by omega
  have hc1 := hcp1 w.drew (fun _ => rfl) (fun _ => rfl) 3 (n - i) (c - i) (by omega)
  have hc2 := hcp2 w.drew (w.drew.setCells b (off + i) vs).drew (fun _ => rfl) (fun _ => rfl) (fun _ => rfl) (fun _ => rfl) 3 (n - (i + 1)) (c - (i + 1)) (c - (i + 1)) (Nat.le_refl _)
  have hc3 := run_clear0 ((w.drew.setCells b (off + i) vs).drew.setCells b (off + (i + 1)) (cs.drop (i + 1))) (some ⟨b, off + n, none⟩) (c - n)
  have hc4 := run_clear0 ((w.drew.setCells b (off + i) vs).drew.setCells b (off + (i + 1)) (cs.drop (i + 1))) (some ⟨b, off, none⟩) 0
  go_enter Tryd.func33, Tryd.ntmps33
  go_wp2
  go_region
  go_wp2
  go_region
  go_wp2
  all_goals go_ret
  · have e : c = n := by omega
    subst e
    exact ⟨rfl, 2, by rw [drew_setCells]; rfl⟩
  · exact ⟨rfl, 2, by rw [drew_setCells]; rfl⟩
theorem rpZ : ∀ w, (Go.sizeOf 3).run Tryd.prog w = .ok 1 w := fun w => by kernel_rfl
theorem run_ovl (w : World) (b vb o voff lb cb m vc : Nat) (hvb : vb ≠ b) (tA tB : TypeId) (kA kB : Nat) (hsa : w.shape? b = some (tA, kA)) (hsb : w.shape? vb = some (tB, kB)) (hkB : kB ≠ 0)
    (hfa : w.frozen? ⟨b, o, none⟩ = false) (hfe : w.frozen? ⟨b, kA, none⟩ = false) :
    (callFunc 68 #[.slice (some ⟨b, o, none⟩) lb cb, .slice (some ⟨vb, voff, none⟩) m vc]).run Tryd.prog w = .ok (.value (.bool false)) w := by
  rw [run_callFunc_extern Tryd.func68 (by kernel_rfl) (by kernel_rfl) (by kernel_rfl) (e := Extern.SlicesOverlaps.overlaps #[24, 24] #[4]) (by kernel_rfl),
      Lib.run_overlaps_apart w 24 4 3 rpT 1 rpZ ⟨b, o, none⟩ ⟨vb, voff, none⟩ lb cb m vc (Ne.symm hvb) tA tB kA kB hsa hsb hkB hfa hfe]
  rfl
set_option maxHeartbeats 4000000 in
set_option maxRecDepth 100000 in
theorem rpl_mid_more (b off n c i vb voff m vc : Nat) (cs vs : List Value) (w : World) (hi : i + 1 < n) (hm : 2 ≤ m) (hnc : n ≤ c) (hroom : i + m + (n - (i + 1)) ≤ c) (hc63 : c ≤ 9223372036854775807) (hvb : vb ≠ b)
    (hcl : cs.length = n) (hvl : vs.length = m)
    (hcs : ∀ j v, cs[j]? = some v → w.cell? ⟨b, off + j, none⟩ = some v) (hsp : ∀ j, j < i + m + (n - (i + 1)) → (w.cell? ⟨b, off + j, none⟩).isSome = true) (hfz : ∀ j, j < i + m + (n - (i + 1)) → w.frozen? ⟨b, off + j, none⟩ = false)
    (hvs : ∀ j v, vs[j]? = some v → w.cell? ⟨vb, voff + j, none⟩ = some v) (h1c : ∀ v ∈ cs, v.oneCell' = true) (h1v : ∀ v ∈ vs, v.oneCell' = true)
    (tA tB : TypeId) (kA kB : Nat) (hsa : w.shape? b = some (tA, kA)) (hsb : w.shape? vb = some (tB, kB)) (hkB : kB ≠ 0) (hfe : w.frozen? ⟨b, kA, none⟩ = false) :
    Calls Tryd.prog 33 #[.slice (some ⟨b, off, none⟩) n c, .int .i64 i, .int .i64 ((i + 1 : Nat) : Int), .slice (some ⟨vb, voff, none⟩) m vc] w fun e w' =>
      e = .returned (.slice (some ⟨b, off, none⟩) (i + m + (n - (i + 1))) c) ∧ ∃ k, w' = ((w.drewN k).setCells b (off + (i + m)) (cs.drop (i + 1))).setCells b (off + i) vs := by
  obtain ⟨i0, hi0, hz0, hzs, hzb⟩ := info_parts rpJ
  have hz1 : ¬ ((i : Int) = (i : Int) + 1) := by omega
  have hz2 : ¬ ((i : Int) + 1 = (n : Int)) := by omega
  have hin : (i : Int) ≤ (n : Int) := by omega
  have hin' : i ≤ n := by omega
  have hin2 : (i : Int) + 1 ≤ (n : Int) := by omega
  have hin2' : i + 1 ≤ n := by omega
  obtain ⟨T, hT⟩ : ∃ T, T = i + m + (n - (i + 1)) := ⟨_, rfl⟩
  have hTI : (i : Int) + (m : Int) + ((n - (i + 1) : Nat) : Int) = (T : Int) := by omega
  rw [← hT] at hroom hsp hfz ⊢
  have hsz : (Tryd.prog.info? 3).map (·.size) = some 1 := by rw [hi0]; simp [hzs]
  have hdl : (cs.drop (i + 1)).length = n - (i + 1) := by rw [List.length_drop, hcl]
  have hw0 : IntKind.i64.wrap ((i : Int) + (m : Int)) = (i : Int) + (m : Int) := by rw [IntKind.wrap_i64]; omega
  have hw1 : IntKind.i64.wrap ((T : Int)) = (T : Int) := by rw [IntKind.wrap_i64]; omega
  have hw2 : IntKind.i64.wrap ((i : Int) + (m : Int) + ((n - (i + 1) : Nat) : Int)) = (T : Int) := by rw [hTI, hw1]
  have hb1 : (0 : Int) ≤ (i : Int) + (m : Int) := by omega
  have hb2 : ¬ (c = i + m) := by omega
  have hb3 : ¬ (c = i) := by omega
  have hb4 : ¬ (c = i + 1) := by omega
  have htn : ((i : Int) + (m : Int)).toNat = i + m := by omega
  have hb5 : (i : Int) + (m : Int) ≤ (T : Int) := by omega
  have hb6 : (i : Int) ≤ (T : Int) := by omega
  have hb7 : ¬ ((c : Int) < (T : Int)) := by omega
  have hb8 : (T : Int) ≤ (c : Int) := by omega
  have hb9 : ¬ ((i : Int) + (m : Int) ≤ (i : Int) + 1) := by omega
  have hov := fun lb cb => run_ovl w.drew b vb (off + (i + m)) voff lb cb m vc hvb tA tB kA kB hsa hsb hkB (by have := hfz (i + m) (by omega); rwa [← Nat.add_assoc] at this ⊢) hfe
  have hc1 : ∀ ty dl, n - (i + 1) ≤ dl → (Builtin.copy_ #[24, 24] ty #[.slice (some ⟨b, off + (i + m), none⟩) dl (c - (i + m)), .slice (some ⟨b, off + (i + 1), none⟩) (n - (i + 1)) (c - (i + 1))]).run Tryd.prog w.drew.drew = .ok (goInt (cs.drop (i + 1)).length) (w.drew.drew.setCells b (off + (i + m)) (cs.drop (i + 1))) := fun ty dl hd1 =>
    run_copy_cells w.drew.drew _ _ ty 3 b (off + (i + m)) dl _ ⟨b, off + (i + 1), none⟩ (n - (i + 1)) _ (cs.drop (i + 1)) rpT hsz (by rw [hdl]; simp only [Nat.min_def]; split <;> omega)
      (fun j v hj => by rw [Addr.add_lit, Nat.add_assoc]; exact hcs (i + 1 + j) v (by rwa [List.getElem?_drop] at hj))
      (fun j hj => by rw [Nat.add_assoc]; exact hsp _ (by omega)) (fun j hj => by rw [Nat.add_assoc]; exact hfz _ (by omega)) (fun v hv => h1c v (List.mem_of_mem_drop hv))
  have hc2 : ∀ ty dl, m ≤ dl → (Builtin.copy_ #[24, 24] ty #[.slice (some ⟨b, off + i, none⟩) dl (c - i), .slice (some ⟨vb, voff, none⟩) m vc]).run Tryd.prog (w.drew.drew.setCells b (off + (i + m)) (cs.drop (i + 1))) = .ok (goInt vs.length) ((w.drew.drew.setCells b (off + (i + m)) (cs.drop (i + 1))).setCells b (off + i) vs) := fun ty dl hd1 =>
    run_copy_cells _ _ _ ty 3 b (off + i) dl _ ⟨vb, voff, none⟩ m vc vs rpT hsz (by rw [hvl]; simp only [Nat.min_def]; split <;> omega)
      (fun j v hj => by rw [Addr.add_lit, World.cell?_setCells_out b _ _ _ _ (fun h _ => absurd h hvb)]; exact hvs j v hj)
      (fun j hj => isSome_setCells b _ _ _ (fun q hq => by rw [Nat.add_assoc]; exact hsp _ (by omega)) _ (by rw [Nat.add_assoc]; exact hsp _ (by omega)))
      (fun j hj => by rw [World.frozen?_setCells, Nat.add_assoc]; exact hfz _ (by omega)) h1v
  have hc3 := hc1 3 (i + (m + (n - (i + 1))) - (i + m)) (by omega)
  have hc4 := hc2 3 (i + (m + (n - (i + 1))) - i) (by omega)
  have hc5 := hc2 3 (m + (n - (i + 1))) (by omega)
  clear hc1 hc2
  go_enter Tryd.func33, Tryd.ntmps33
  go_wp2
  go_region
  go_wp2_with (simp only [hov])
  go_region
  go_wp2
  go_ret
  have eT : T = i + (m + (n - (i + 1))) := by omega
  subst eT
  exact ⟨rfl, 2, rfl⟩
set_option maxHeartbeats 600000 in
set_option maxRecDepth 100000 in
theorem rpl_mid_grow (b off n c i vb voff m vc : Nat) (cs vs : List Value) (w : World) (hi : i + 1 < n) (hm : 0 < m) (hnc : n ≤ c) (hroom : c < i + (m + (n - (i + 1)))) (hbig : (n + m) * 8 ≤ 140737488355328)
    (hcl : cs.length = n) (hvl : vs.length = m)
    (hcs : ∀ j v, cs[j]? = some v → w.cell? ⟨b, off + j, none⟩ = some v)
    (hvs : ∀ j v, vs[j]? = some v → w.cell? ⟨vb, voff + j, none⟩ = some v) (h1c : ∀ v ∈ cs, v.oneCell' = true) (h1v : ∀ v ∈ vs, v.oneCell' = true) :
    Calls Tryd.prog 33 #[.slice (some ⟨b, off, none⟩) n c, .int .i64 i, .int .i64 ((i + 1 : Nat) : Int), .slice (some ⟨vb, voff, none⟩) m vc] w fun e w' =>
      ∃ (G : Nat) (ROW : Array Value), e = .returned (.slice (some ⟨w.heap.size, 0, none⟩) (i + (m + (n - (i + 1)))) G) ∧ i + (m + (n - (i + 1))) ≤ G ∧ G ≤ 9223372036854775807 ∧ G ≤ ROW.size ∧ (∀ j, j < i → ROW[j]? = cs[j]?) ∧
        w' = ((((w.alloc (.cells ROW 3)).drew.drew).setCells w.heap.size i vs).drew).setCells w.heap.size (i + m) (cs.drop (i + 1)) := by
  obtain ⟨i0, hi0, hz0, hzs, hzb⟩ := info_parts rpJ
  have hz1 : ¬ ((i : Int) = (i : Int) + 1) := by omega
  have hz2 : ¬ ((i : Int) + 1 = (n : Int)) := by omega
  have hin : (i : Int) ≤ (n : Int) := by omega
  have hin' : i ≤ n := by omega
  have hin2 : (i : Int) + 1 ≤ (n : Int) := by omega
  have hin2' : i + 1 ≤ n := by omega
  have hold : (Builtin.firstCells i0.size i (.slice (some ⟨b, off, none⟩) i c)).run Tryd.prog w.drew.drew = .ok (cs.take i).toArray w.drew.drew := by
    rw [hzs]
    exact run_firstCells_some w.drew.drew 1 i ⟨b, off, none⟩ i c (cs.take i) (by rw [List.length_take]; omega) (fun j v hj => by
      rw [Addr.add_lit]
      rw [List.getElem?_take] at hj
      split at hj
      · exact hcs j v hj
      · cases hj)
  obtain ⟨T, hT⟩ : ∃ T, T = i + (m + (n - (i + 1))) := ⟨_, rfl⟩
  have hTI : (i : Int) + (m : Int) + ((n - (i + 1) : Nat) : Int) = (T : Int) := by omega
  obtain ⟨k, hk⟩ : ∃ k, k = T - i := ⟨_, rfl⟩
  have hkk : (T : Int) - (i : Int) = (k : Int) := by omega
  have hik : i + k = T := by omega
  have hrz : ∀ ty, (Builtin.append_ #[24, 3] ty #[.slice (some ⟨b, off, none⟩) i c, .int .i64 ((T : Int) - (i : Int))]).run Tryd.prog w.drew =
      .ok (.slice (some ⟨w.heap.size, 0, none⟩) T (grownCap w.drew T c 3)) (w.drew.drew.alloc (.cells ((cs.take i).toArray ++ Builtin.zeroCells (Value.int .i64 0).cells k ++ Builtin.zeroCells (Value.int .i64 0).cells (grownCap w.drew T c 3 - T)) 3)) := fun ty => by
    rw [hkk]
    have h := Lib.run_append_grow_zeros w.drew 24 3 ty 3 i0 _ .i64 .i64 rpT rpI hi0 hz0 (some ⟨b, off, none⟩) i c (cs.take i) hold k (by omega) (by omega) (by omega) (by omega) (by rw [hzb]; omega) (by rw [hzb]; exact growslice_fits (by omega) (by omega))
    rw [hik] at h
    exact h
  obtain ⟨G, hG⟩ : ∃ G, G = grownCap w.drew T c 3 := ⟨_, rfl⟩
  obtain ⟨ROW, hROW⟩ : ∃ ROW : Array Value, ROW = (cs.take i).toArray ++ Builtin.zeroCells (Value.int .i64 0).cells k ++ Builtin.zeroCells (Value.int .i64 0).cells (G - T) := ⟨_, rfl⟩
  rw [← hT] at hroom ⊢
  rw [← hG] at hrz
  rw [← hROW] at hrz
  have hbw : b < w.heap.size := block_lt_of_cell (hcs 0 _ (List.getElem?_eq_getElem (by omega)))
  have hvw : vb < w.heap.size := block_lt_of_cell (hvs 0 _ (List.getElem?_eq_getElem (by omega)))
  have hRG : G ≤ ROW.size := by
    rw [hROW]
    simp [Builtin.zeroCells, Value.cells]
    omega
  have hRl : T ≤ ROW.size := by
    rw [hROW]
    simp [Builtin.zeroCells, Value.cells]
    omega
  have hR0 : ∀ j, j < i → ROW[j]? = cs[j]? := fun j hj => by
    rw [hROW, Array.append_assoc, Array.getElem?_append_left (by simp; omega)]
    simp [List.getElem?_take, hj]
  have hsz : (Tryd.prog.info? 3).map (·.size) = some 1 := by rw [hi0]; simp [hzs]
  have hGn : T ≤ G := by rw [hG]; exact grownCap_ge w.drew _ _ _
  have hG63 : G ≤ 9223372036854775807 := by
    have := grownCap_le_maxLen w.drew T c 3 (by unfold maxLen; omega)
    rw [← hG] at this
    unfold maxLen at this
    omega
  obtain ⟨W1, hW1⟩ : ∃ W1, W1 = w.drew.drew.alloc (.cells ROW 3) := ⟨_, rfl⟩
  have hN : ∀ j, j < T → (W1.cell? ⟨w.heap.size, j, none⟩).isSome = true := fun j hj => by
    rw [hW1, World.cell?_alloc_at (w := w.drew.drew) ROW _ w.heap.size j rfl, Array.getElem?_eq_getElem (by omega)]; rfl
  have hNf : ∀ j, W1.frozen? ⟨w.heap.size, j, none⟩ = false := fun j => by rw [hW1]; exact World.frozen?_alloc_at (w := w.drew.drew) ROW _ w.heap.size j rfl
  have hOb : ∀ j v, w.cell? ⟨b, j, none⟩ = some v → W1.cell? ⟨b, j, none⟩ = some v := fun j v h => by rw [hW1, World.cell?_alloc_past (w := w.drew.drew) _ b j hbw]; exact h
  have hOv : ∀ j v, w.cell? ⟨vb, j, none⟩ = some v → W1.cell? ⟨vb, j, none⟩ = some v := fun j v h => by rw [hW1, World.cell?_alloc_past (w := w.drew.drew) _ vb j hvw]; exact h
  have hdl : (cs.drop (i + 1)).length = n - (i + 1) := by rw [List.length_drop, hcl]
  have hbN : b ≠ w.heap.size := by omega
  have hc1 : ∀ (W : World), (∀ x, W.cell? x = W1.cell? x) → (∀ x, W.frozen? x = W1.frozen? x) → ∀ ty dl dc, m ≤ dl → (Builtin.copy_ #[24, 24] ty #[.slice (some ⟨w.heap.size, i, none⟩) dl dc, .slice (some ⟨vb, voff, none⟩) m vc]).run Tryd.prog W = .ok (goInt vs.length) (W.setCells w.heap.size i vs) := fun W hWc hWf ty dl dc hd1 =>
    run_copy_cells W _ _ ty 3 w.heap.size i dl dc ⟨vb, voff, none⟩ m vc vs rpT hsz (by rw [hvl]; simp only [Nat.min_def]; split <;> omega)
      (fun j v hj => by rw [Addr.add_lit, hWc]; exact hOv _ v (hvs j v hj))
      (fun j hj => by rw [hWc]; exact hN _ (by omega)) (fun j hj => by rw [hWf]; exact hNf _) h1v
  have hc2 : ∀ (W : World), (∀ x, W.cell? x = (W1.setCells w.heap.size i vs).cell? x) → (∀ x, W.frozen? x = (W1.setCells w.heap.size i vs).frozen? x) → ∀ ty dl dc sc, n - (i + 1) ≤ dl → (Builtin.copy_ #[24, 24] ty #[.slice (some ⟨w.heap.size, i + m, none⟩) dl dc, .slice (some ⟨b, off + (i + 1), none⟩) (n - (i + 1)) sc]).run Tryd.prog W = .ok (goInt (cs.drop (i + 1)).length) (W.setCells w.heap.size (i + m) (cs.drop (i + 1))) := fun W hWc hWf ty dl dc sc hd1 =>
    run_copy_cells W _ _ ty 3 w.heap.size (i + m) dl dc ⟨b, off + (i + 1), none⟩ (n - (i + 1)) sc (cs.drop (i + 1)) rpT hsz (by rw [hdl]; simp only [Nat.min_def]; split <;> omega)
      (fun j v hj => by
        rw [Addr.add_lit, hWc, World.cell?_setCells_out _ _ _ _ _ (fun h _ => absurd h hbN), Nat.add_assoc]
        exact hOb _ v (hcs (i + 1 + j) v (by rwa [List.getElem?_drop] at hj)))
      (fun j hj => by rw [hWc]; exact isSome_setCells _ _ _ _ (fun t ht => hN _ (by omega)) _ (hN _ (by omega)))
      (fun j hj => by rw [hWf, World.frozen?_setCells]; exact hNf _) (fun v hv => h1c v (List.mem_of_mem_drop hv))
  subst hW1
  have hc3 := hc1 ((w.alloc (.cells ROW 3)).drew.drew) (fun _ => rfl) (fun _ => rfl) 3 (T - i) (G - i) (by omega)
  have hc4 := hc2 (((w.alloc (.cells ROW 3)).drew.drew).setCells w.heap.size i vs).drew (fun _ => rfl) (fun _ => rfl) 3 (T - (i + m)) (G - (i + m)) (c - (i + 1)) (by omega)
  have hw0 : IntKind.i64.wrap ((i : Int) + (m : Int)) = (i : Int) + (m : Int) := by rw [IntKind.wrap_i64]; omega
  have hb1 : (0 : Int) ≤ (i : Int) + (m : Int) := by omega
  have htn : ((i : Int) + (m : Int)).toNat = i + m := by omega
  have hGi : ¬ (G = i) := by omega
  have hGim : ¬ (G = i + m) := by omega
  have hci : ¬ (c = i + 1) := by omega
  have hw1 : IntKind.i64.wrap ((T : Int)) = (T : Int) := by rw [IntKind.wrap_i64]; omega
  have hw2 : IntKind.i64.wrap ((i : Int) + (m : Int) + ((n - (i + 1) : Nat) : Int)) = (T : Int) := by rw [hTI, hw1]
  have hw3 : IntKind.i64.wrap ((T : Int) - (i : Int)) = (T : Int) - (i : Int) := by rw [IntKind.wrap_i64]; omega
  have hb2 : (i : Int) ≤ (T : Int) := by omega
  have hb3 : i ≤ T := by omega
  have hb4 : i + m ≤ T := by omega
  have hb5 : (i : Int) + (m : Int) ≤ (T : Int) := by omega
  have hb6 : (c : Int) < (T : Int) := by omega
  clear hc1 hc2 hN hNf hOb hOv hold hG hROW hT hk hkk hik
  go_enter Tryd.func33, Tryd.ntmps33
  go_wp2
  go_region
  go_wp2_with (at_builtin; refine Lib.wpList_append_run _ rfl _ _ _ _ rfl (.slice (some ⟨b, off, none⟩) i c) (.int .i64 ((T : Int) - (i : Int))) (by simp [Act.eval]) (by simp [Act.eval]) _ _ (hrz _) ?_)
  go_region
  go_wp2
  go_ret
  exact ⟨G, ROW, rfl, hGn, hG63, hRG, hR0, rfl⟩
/-- The cells of block b have turned, in their place; other blocks are xs they were, or new. -/
structure Tnd (w w' : World) (b : Nat) : Prop where
  os : w'.os = w.os
  tape : w'.tape = w.tape
  output : w'.output = w.output
  size : w.heap.size ≤ w'.heap.size
  drawn : w.drawn ≤ w'.drawn
  other : ∀ k, k < w.heap.size → k ≠ b → w'.heap[k]? = w.heap[k]?
  row : ∀ cs E fr, w.heap[b]? = some (.cells cs E fr) → ∃ cs', w'.heap[b]? = some (.cells cs' E fr) ∧ cs'.size = cs.size
theorem Tnd.trans {w w' w'' : World} {b : Nat} (h : Tnd w w' b) (k : Tnd w' w'' b) : Tnd w w'' b :=
  ⟨k.os.trans h.os, k.tape.trans h.tape, k.output.trans h.output, Nat.le_trans h.size k.size, Nat.le_trans h.drawn k.drawn, fun i hi hne => (k.other i (Nat.lt_of_lt_of_le hi h.size) hne).trans (h.other i hi hne), fun cs E fr hc => by
    obtain ⟨c1, h1, h2⟩ := h.row cs E fr hc
    obtain ⟨c2, h3, h4⟩ := k.row c1 E fr h1
    exact ⟨c2, h3, h4.trans h2⟩⟩
theorem Tnd.drewN (w : World) (b n : Nat) : Tnd w (w.drewN n) b := ⟨rfl, rfl, rfl, Nat.le_refl _, Nat.le_add_right _ _, fun _ _ _ => rfl, fun cs _ _ h => ⟨cs, h, rfl⟩⟩
theorem Tnd.drew (w : World) (b : Nat) : Tnd w w.drew b := ⟨rfl, rfl, rfl, Nat.le_refl _, Nat.le_succ _, fun _ _ _ => rfl, fun cs _ _ h => ⟨cs, h, rfl⟩⟩
theorem Tnd.setCell (w : World) (b o : Nat) (v : Value) : Tnd w (w.setCell ⟨b, o, none⟩ v) b := by
  refine ⟨rfl, rfl, rfl, by simp [World.setCell], Nat.le_refl _, fun k hk hne => ?_, fun cs E fr h => ?_⟩
  · simp only [World.setCell]
    rw [Array.getElem?_modify, if_neg (Ne.symm hne)]
  · refine ⟨cs.setIfInBounds o v, ?_, by simp⟩
    simp only [World.setCell]
    rw [Array.getElem?_modify, if_pos rfl, h]; rfl
theorem Tnd.setCells (b : Nat) : ∀ (vs : List Value) (w : World) (o : Nat), Tnd w (w.setCells b o vs) b
  | [], w, o => Tnd.drewN w b 0
  | v :: vs, w, o => (Tnd.setCell w b o v).trans (Tnd.setCells b vs _ (o + 1))
theorem Tnd.alloc (w : World) (o : Obj) : Tnd w (w.alloc o) w.heap.size := by
  have e : (w.alloc o).heap = w.heap.push o := rfl
  exact ⟨rfl, rfl, rfl, by rw [e]; simp, Nat.le_refl _, fun k hk hne => by rw [e, Array.getElem?_push, if_neg (by omega)], fun cs E fr h => by rw [Array.getElem?_eq_none (Nat.le_refl _)] at h; cases h⟩
/-- What stands after two lists were laid into a row. -/
theorem lay2 {w w' : World} {b p q : Nat} {xs ys : List Value} (hw : w' = (w.setCells b p xs).setCells b q ys) (hd : p + xs.length ≤ q ∨ q + ys.length ≤ p) (hx : ∀ j, j < xs.length → (w.cell? ⟨b, p + j, none⟩).isSome = true)
    (hy : ∀ j, j < ys.length → (w.cell? ⟨b, q + j, none⟩).isSome = true) :
    (∀ j v, xs[j]? = some v → w'.cell? ⟨b, p + j, none⟩ = some v) ∧ (∀ j v, ys[j]? = some v → w'.cell? ⟨b, q + j, none⟩ = some v) ∧ (∀ x, (x < p ∨ p + xs.length ≤ x) → (x < q ∨ q + ys.length ≤ x) → w'.cell? ⟨b, x, none⟩ = w.cell? ⟨b, x, none⟩) := by
  subst hw
  refine ⟨fun j v hv => ?_, fun j v hv => ?_, fun x h1 h2 => ?_⟩
  · have hj : j < xs.length := (List.getElem?_eq_some_iff.1 hv).1
    rw [World.cell?_setCells_out _ _ _ _ _ (fun _ _ => by simp only; omega), World.cell?_setCells_in b xs p w hx j hj]
    rw [← hv, List.getElem?_eq_getElem hj]
  · have hj : j < ys.length := (List.getElem?_eq_some_iff.1 hv).1
    rw [World.cell?_setCells_in b ys q _ (fun k hk => isSome_setCells _ _ _ _ hx _ (hy k hk)) j hj]
    rw [← hv, List.getElem?_eq_getElem hj]
  · rw [World.cell?_setCells_out _ _ _ _ _ (fun _ _ => by simp only; omega), World.cell?_setCells_out _ _ _ _ _ (fun _ _ => by simp only; omega)]
theorem three {f : Nat → Option Value} {i : Nat} {cs vs ds : List Value} (hi : i ≤ cs.length) (h1 : ∀ j v, j < i → cs[j]? = some v → f j = some v) (h2 : ∀ j v, vs[j]? = some v → f (i + j) = some v)
    (h3 : ∀ j v, ds[j]? = some v → f (i + vs.length + j) = some v) (j : Nat) (v : Value) (h : (cs.take i ++ (vs ++ ds))[j]? = some v) : f j = some v := by
  have hl : (cs.take i).length = i := by simp; omega
  rw [List.getElem?_append] at h
  split at h
  · rw [List.getElem?_take] at h
    split at h
    · exact h1 j v (by omega) h
    · cases h
  · rw [hl] at h
    rename_i hj
    rw [hl] at hj
    rw [List.getElem?_append] at h
    split at h
    · have := h2 _ v h
      rwa [show i + (j - i) = j by omega] at this
    · rename_i hk
      have := h3 _ v h
      rwa [show i + vs.length + (j - i - vs.length) = j by omega] at this
theorem cellq (w : World) (B o : Nat) : w.cell? ⟨B, o, none⟩ = match w.heap[B]? with | some (.cells c _ _) => c[o]? | _ => none := rfl
theorem Pushed1 (w : World) (o : Obj) : (w.alloc o).heap[w.heap.size]? = some o := by
  have e : (w.alloc o).heap = w.heap.push o := rfl
  rw [e]; simp
/-- What slices.Replace leaves: a row of its own block, or of a new one. -/
def RplOut (w w' : World) (b off c : Nat) (rs : List Value) (e : Ending) : Prop :=
  ∃ B o k, e = .returned (.slice (some ⟨B, o, none⟩) rs.length k) ∧ rs.length ≤ k ∧ k ≤ maxLen ∧ Tnd w w' B ∧ (∃ C E lo hi, w'.heap[B]? = some (.cells C E (lo, hi)) ∧ o + k ≤ C.size ∧ hi ≤ lo) ∧
    (B = b ∧ o = off ∧ k = c ∨ B = w.heap.size) ∧ ∀ j v, rs[j]? = some v → w'.cell? ⟨B, o + j, none⟩ = some v
theorem rpl_all (b off n c i vb voff m vc : Nat) (cs vs : List Value) (w : World) (hi : i < n) (hm : 1 ≤ m) (hnc : n ≤ c) (hc63 : c ≤ maxLen) (hbig : (n + m) * 8 ≤ 140737488355328) (hvb : vb ≠ b)
    (hcl : cs.length = n) (hvl : vs.length = m) (CS : Array Value) (E : TypeId) (lo hi' : Nat) (hcell : w.heap[b]? = some (.cells CS E (lo, hi'))) (hfit : off + c ≤ CS.size) (hfr : hi' ≤ lo)
    (hcs : ∀ j v, cs[j]? = some v → w.cell? ⟨b, off + j, none⟩ = some v)
    (hvs : ∀ j v, vs[j]? = some v → w.cell? ⟨vb, voff + j, none⟩ = some v) (h1c : ∀ v ∈ cs, v.oneCell' = true) (h1v : ∀ v ∈ vs, v.oneCell' = true) :
    Calls Tryd.prog 33 #[.slice (some ⟨b, off, none⟩) n c, .int .i64 i, .int .i64 ((i + 1 : Nat) : Int), .slice (some ⟨vb, voff, none⟩) m vc] w fun e w' => RplOut w w' b off c (cs.take i ++ (vs ++ cs.drop (i + 1))) e := by
  have hc6 : c ≤ 9223372036854775807 := hc63
  have hbw : b < w.heap.size := by
    rcases Nat.lt_or_ge b w.heap.size with h | h
    · exact h
    · rw [Array.getElem?_eq_none h] at hcell; cases hcell
  have hrl : (cs.take i ++ (vs ++ cs.drop (i + 1))).length = i + (m + (n - (i + 1))) := by simp [hcl, hvl]; omega
  have hfz : ∀ j, w.frozen? ⟨b, j, none⟩ = false := fun j => by simp only [World.frozen?, hcell]; simp; omega
  have hsp : ∀ j, j < c → (w.cell? ⟨b, off + j, none⟩).isSome = true := fun j hj => by
    rw [cellq, hcell]; simp only; rw [Array.getElem?_eq_getElem (by omega)]; rfl
  have hdl : (cs.drop (i + 1)).length = n - (i + 1) := by rw [List.length_drop, hcl]
  have rowOf : ∀ w', Tnd w w' b → ∃ C E lo hi, w'.heap[b]? = some (.cells C E (lo, hi)) ∧ off + c ≤ C.size ∧ hi ≤ lo := fun w' h => by
    obtain ⟨C, h1, h2⟩ := h.row CS E (lo, hi') hcell
    exact ⟨C, E, lo, hi', h1, by omega, hfr⟩
  have hd2 : ∀ j v, (cs.drop (i + 1))[j]? = some v → w.cell? ⟨b, off + (i + 1) + j, none⟩ = some v := fun j v h => by
    rw [List.getElem?_drop] at h
    rw [Nat.add_assoc]; exact hcs _ v h
  rw [show RplOut w = RplOut w from rfl]
  by_cases h1 : i + 1 = n
  · have hdn : cs.drop (i + 1) = [] := List.eq_nil_of_length_eq_zero (by omega)
    by_cases h2 : i + m ≤ c
    · have K := rpl_end_room b off n c i vb voff m vc vs w h1 hm hnc h2 hc6 hvl (fun j hj => by rw [Nat.add_assoc]; exact hsp _ (by omega)) (fun j _ => hfz _) hvs h1v
      rw [← h1] at K ⊢
      refine K.mono ?_
      rintro e w' ⟨rfl, hw⟩
      have T : Tnd w w' b := hw ▸ Tnd.setCells b vs w _
      refine ⟨b, off, c, by rw [hrl, show i + (m + (n - (i + 1))) = i + m by omega], by omega, hc63, T, rowOf w' T, .inl ⟨rfl, rfl, rfl⟩, ?_⟩
      obtain ⟨f1, f2, f3⟩ := lay2 (w := w) (w' := w') (b := b) (p := off + i) (q := off + i + m) (xs := vs) (ys := []) hw (.inl (by omega)) (fun j hj => by rw [Nat.add_assoc]; exact hsp _ (by omega)) (fun j hj => by simp at hj)
      rw [hdn]
      exact three (f := fun j => w'.cell? ⟨b, off + j, none⟩) (by omega) (fun j v hj hv => by rw [f3 _ (.inl (by omega)) (by simp; omega)]; exact hcs j v hv) (fun j v hv => by rw [← Nat.add_assoc]; exact f1 j v hv) (fun j v hv => by cases hv)
    · have K := rpl_end_grow b off n c i vb voff m vc (cs.take i) vs w h1 hm hnc (by omega) hbig (by simp; omega) hvl (fun j v hv => by
        rw [List.getElem?_take] at hv
        split at hv
        · exact hcs j v hv
        · cases hv) hvs h1v
      rw [← h1] at K ⊢
      refine K.mono ?_
      rintro e w' ⟨rfl, hw⟩
      obtain ⟨G, hG⟩ : ∃ G, G = grownCap w (i + m) c 3 := ⟨_, rfl⟩
      rw [← hG] at hw ⊢
      have hGn : i + m ≤ G := by rw [hG]; exact grownCap_ge w _ _ _
      have hGm : G ≤ maxLen := by rw [hG]; exact grownCap_le_maxLen w (i + m) c 3 (by unfold maxLen; omega)
      obtain ⟨ROW, hR⟩ : ∃ ROW : Array Value, ROW = (cs.take i ++ vs).toArray ++ Builtin.zeroCells (Value.int .i64 0).cells (G - (i + m)) := ⟨_, rfl⟩
      rw [← hR] at hw
      have T : Tnd w w' w.heap.size := hw ▸ (Tnd.drew w w.heap.size).trans (Tnd.alloc w.drew _)
      have hcl2 : (cs.take i).length = i := by simp; omega
      refine ⟨w.heap.size, 0, G, by rw [hrl]; congr 3; omega, by omega, hGm, T, ⟨ROW, 3, 0, 0, ?_, ?_, Nat.le_refl _⟩, .inr rfl, ?_⟩
      · rw [hw]; exact (Pushed1 w.drew (.cells ROW 3))
      · rw [hR]; simp [Builtin.zeroCells, Value.cells]; omega
      · intro j v hv
        rw [hdn, List.append_nil] at hv
        rw [hw, World.cell?_alloc_at (w := w.drew) ROW _ w.heap.size _ rfl, hR, Nat.zero_add, Array.getElem?_append_left (by
          have := (List.getElem?_eq_some_iff.1 hv).1
          simpa using this)]
        simpa using hv
  · by_cases h2 : i + (m + (n - (i + 1))) ≤ c
    · by_cases h3 : m = 1
      · subst h3
        have K := rpl_mid_one b off n c i vb voff vc cs vs w (by omega) hnc hc6 hvb hcl hvl hcs (fun j _ => hfz _) hvs h1c h1v
        refine K.mono ?_
        rintro e w' ⟨rfl, k, hw⟩
        have T : Tnd w w' b := hw ▸ ((Tnd.drewN w b k).trans (Tnd.setCells b vs _ _)).trans (Tnd.setCells b _ _ _)
        refine ⟨b, off, c, by rw [hrl, show i + (1 + (n - (i + 1))) = n by omega], by omega, hc63, T, rowOf w' T, .inl ⟨rfl, rfl, rfl⟩, ?_⟩
        obtain ⟨f1, f2, f3⟩ := lay2 (w := w.drewN k) (w' := w') (b := b) (p := off + i) (q := off + (i + 1)) (xs := vs) (ys := cs.drop (i + 1)) hw (.inl (by omega)) (fun j hj => by rw [Nat.add_assoc]; exact hsp _ (by omega)) (fun j hj => by rw [Nat.add_assoc]; exact hsp _ (by omega))
        exact three (f := fun j => w'.cell? ⟨b, off + j, none⟩) (by omega) (fun j v hj hv => by rw [f3 _ (.inl (by omega)) (.inl (by omega))]; exact hcs j v hv) (fun j v hv => by rw [← Nat.add_assoc]; exact f1 j v hv) (fun j v hv => by rw [hvl, ← Nat.add_assoc]; exact f2 j v hv)
      · have hvs0 : ∃ v, vs[0]? = some v := ⟨_, List.getElem?_eq_getElem (by omega)⟩
        obtain ⟨v0, hv0⟩ := hvs0
        have hx := hvs 0 v0 hv0
        obtain ⟨C2, E2, fr2, hC2, hC3⟩ : ∃ C2 E2 fr2, w.heap[vb]? = some (.cells C2 E2 fr2) ∧ C2.size ≠ 0 := by
          rw [cellq] at hx
          split at hx
          · rename_i C2 E2 fr2 hC
            refine ⟨C2, E2, fr2, hC, fun e => ?_⟩
            rw [Array.getElem?_eq_none (by omega)] at hx; cases hx
          · cases hx
        have K := rpl_mid_more b off n c i vb voff m vc cs vs w (by omega) (by omega) hnc (by omega) hc6 hvb hcl hvl hcs (fun j hj => hsp j (by omega)) (fun j _ => hfz _) hvs h1c h1v E E2 CS.size C2.size (by simp only [World.shape?, hcell]) (by simp only [World.shape?, hC2]) hC3 (hfz _)
        refine K.mono ?_
        rintro e w' ⟨rfl, k, hw⟩
        have T : Tnd w w' b := hw ▸ ((Tnd.drewN w b k).trans (Tnd.setCells b _ _ _)).trans (Tnd.setCells b _ _ _)
        refine ⟨b, off, c, by rw [hrl, ← Nat.add_assoc], by omega, hc63, T, rowOf w' T, .inl ⟨rfl, rfl, rfl⟩, ?_⟩
        obtain ⟨f1, f2, f3⟩ := lay2 (w := w.drewN k) (w' := w') (b := b) (p := off + (i + m)) (q := off + i) (xs := cs.drop (i + 1)) (ys := vs) hw (.inr (by omega)) (fun j hj => by rw [Nat.add_assoc]; exact hsp _ (by omega)) (fun j hj => by rw [Nat.add_assoc]; exact hsp _ (by omega))
        exact three (f := fun j => w'.cell? ⟨b, off + j, none⟩) (by omega) (fun j v hj hv => by rw [f3 _ (.inl (by omega)) (.inl (by omega))]; exact hcs j v hv) (fun j v hv => by rw [← Nat.add_assoc]; exact f2 j v hv) (fun j v hv => by rw [hvl, ← Nat.add_assoc]; exact f1 j v hv)
    · have K := rpl_mid_grow b off n c i vb voff m vc cs vs w (by omega) hm hnc (by omega) hbig hcl hvl hcs hvs h1c h1v
      refine K.mono ?_
      rintro e w' ⟨G, ROW, rfl, g1, g2, g3, g4, hw⟩
      rw [drew_setCells] at hw
      have T1 : Tnd w (w.alloc (.cells ROW 3)) w.heap.size := Tnd.alloc w _
      have T2 : Tnd (w.alloc (.cells ROW 3)) w' w.heap.size := hw ▸ ((Tnd.drewN _ w.heap.size 3).trans (Tnd.setCells w.heap.size _ _ _)).trans (Tnd.setCells w.heap.size _ _ _)
      obtain ⟨C, c1, c2⟩ := T2.row ROW 3 (0, 0) (Pushed1 w (.cells ROW 3))
      have hn : ∀ j, (w.alloc (.cells ROW 3)).cell? ⟨w.heap.size, j, none⟩ = ROW[j]? := fun j => World.cell?_alloc_at (w := w) ROW _ w.heap.size j rfl
      have hsm : ∀ j, j < G → (((w.alloc (.cells ROW 3)).drew.drew.drew).cell? ⟨w.heap.size, j, none⟩).isSome = true := fun j hj => by
        show ((w.alloc (.cells ROW 3)).cell? ⟨w.heap.size, j, none⟩).isSome = true
        rw [hn, Array.getElem?_eq_getElem (by omega)]; rfl
      refine ⟨w.heap.size, 0, G, by rw [hrl], by omega, g2, T1.trans T2, ⟨C, 3, 0, 0, c1, by omega, Nat.le_refl _⟩, .inr rfl, ?_⟩
      obtain ⟨f1, f2, f3⟩ := lay2 (w := (w.alloc (.cells ROW 3)).drew.drew.drew) (w' := w') (b := w.heap.size) (p := i) (q := i + m) (xs := vs) (ys := cs.drop (i + 1)) hw (.inl (by omega)) (fun j hj => hsm _ (by omega)) (fun j hj => hsm _ (by omega))
      exact three (f := fun j => w'.cell? ⟨w.heap.size, 0 + j, none⟩) (by omega) (fun j v hj hv => by
        rw [Nat.zero_add, f3 _ (.inl (by omega)) (.inl (by omega))]
        show (w.alloc (.cells ROW 3)).cell? ⟨w.heap.size, j, none⟩ = some v
        rw [hn, g4 j hj]; exact hv) (fun j v hv => by rw [Nat.zero_add]; exact f1 j v hv) (fun j v hv => by rw [hvl, Nat.zero_add]; exact f2 j v hv)
theorem intL_get {L : List Int} {j : Nat} {x : PV} (h : (L.map (PV.int .i64))[j]? = some x) : ∃ n, L[j]? = some n ∧ x = .int .i64 n := by
  rw [List.getElem?_map] at h
  cases e : L[j]? with
  | none => rw [e] at h; cases h
  | some n => rw [e] at h; exact ⟨n, rfl, by simpa using h.symm⟩
set_option maxHeartbeats 1000000 in
theorem rpl_call {m0 : Bool} (L v : List Int) (i : Nat) (hi : i < L.length) (hv1 : 1 ≤ v.length) (hL : L.length ≤ 1048576) (hvl : v.length ≤ 1048576) :
    CallT Tryd.prog true 33 [.mu false (L.map (PV.int .i64)), .pv (.int .i64 i), .pv (.int .i64 ((i : Int) + 1)), .pv (.sl (.lent m0) (v.map (PV.int .i64)))] [none, none, none, none] [.sl .own ((L.take i ++ (v ++ L.drop (i + 1))).map (PV.int .i64))] := by
  let ag : List Arg := [.mu false (L.map (PV.int .i64)), .pv (.int .i64 i), .pv (.int .i64 ((i : Int) + 1)), .pv (.sl (.lent m0) (v.map (PV.int .i64)))]
  let rs : List Int := L.take i ++ (v ++ L.drop (i + 1))
  have eB : ∀ Z : List Int, mkB true (List.map (PV.int .i64) Z) = .live true (List.map (PV.int .i64) Z) := fun Z => mkB_plain (NDl.h (c := List.map (PV.int .i64) Z))
  have eL : lenC (List.map (PV.int .i64) L) = L.length := by rw [lenC_live, List.length_map]
  have eA : ∀ j, argH ag j = if j = 0 then .live true (List.map (PV.int .i64) L) else .dead := fun j => by
    match j with
    | 0 => exact eB L
    | 1 => rfl
    | 2 => rfl
    | 3 => rfl
    | j + 4 => rfl
  have eP : ∀ j, postH true ag [none, none, none, none] [.sl .own (rs.map (PV.int .i64))] j = if j = 4 then .live true (rs.map (PV.int .i64)) else .dead := fun j => by
    match j with
    | 0 => rfl
    | 1 => rfl
    | 2 => rfl
    | 3 => rfl
    | 4 => rfl
    | j + 5 => rfl
  refine ⟨⟨_, Tryd.func33, rfl, rfl⟩, ?_, rfl, rfl, ?_⟩
  · simp only [noRoL, noRo, Bool.and_true]; exact noRoL_map (fun _ => rfl) _
  intro w G ι vs hamb hG ok hv
  simp only [argAVs, Arg.av, RepAL, RepA, eL] at hv
  obtain ⟨v0, vs1, rfl, ⟨a, cap, rfl, hle, hcap, hmax, hloc⟩, v1, vs2, rfl, hq1, v2, vs3, rfl, hq2, v3, vs4, rfl, hq3, rfl⟩ := hv
  simp only [RepP] at hq1 hq2 hq3
  subst hq1; subst hq2
  obtain ⟨a3, c3, rfl, k1, k2, _, k4⟩ := hq3
  have hlive := ok.ok 0
  rw [show argH _ 0 = _ from eA 0, if_pos rfl] at hlive
  obtain ⟨g1, g2, g3⟩ := hlive
  rw [List.length_map] at g1
  have hc0 : (ι 0).cap ≠ 0 := by omega
  rcases g3 with g3 | ⟨⟨cs, E, lo, hi', hcell, hfit, hfr⟩, hrep, horg⟩
  · exact absurd g3 hc0
  have hfr : hi' ≤ lo := hfr.elim id fun h => by cases h.1
  have heldA : ∀ B, Held (argH ag) ι B ↔ B = (ι 0).B := fun B => by
    constructor
    · rintro ⟨id, ho⟩
      rw [eA] at ho
      split at ho
      · rename_i e; subst e; exact ho.2.symm
      · exact ho.elim
    · rintro rfl
      exact ⟨0, by rw [eA, if_pos rfl]; exact ⟨hc0, rfl⟩⟩
  rw [RepC_iff] at hrep
  have ha : a = some ⟨(ι 0).B, (ι 0).off, none⟩ := by
    rcases hloc with h | h
    · omega
    · simpa using h
  subst ha
  rw [List.length_map] at k1
  have hvne : v.map (PV.int .i64) ≠ [] := by intro e; have := congrArg List.length e; simp at this; simp [this] at hv1
  rcases k4 with k4 | ⟨vb, voff, rfl, k5, _, k6⟩
  · exact absurd k4 hvne
  have hvb : vb ≠ (ι 0).B := fun e => k5 ((heldA _).2 e)
  rw [RepC_iff] at k6
  have hcs : ∀ j u, (L.map (Value.int .i64))[j]? = some u → w.cell? ⟨(ι 0).B, (ι 0).off + j, none⟩ = some u := fun j u h => by
    rw [List.getElem?_map] at h
    cases e : L[j]? with
    | none => rw [e] at h; cases h
    | some n =>
      rw [e] at h; cases h
      obtain ⟨u, u1, _, u3⟩ := hrep j (.int .i64 n) (by rw [List.getElem?_map, e]; rfl)
      simp only [RepP] at u3
      rw [u1, u3]
  have hvs : ∀ j u, (v.map (Value.int .i64))[j]? = some u → w.cell? ⟨vb, voff + j, none⟩ = some u := fun j u h => by
    rw [List.getElem?_map] at h
    cases e : v[j]? with
    | none => rw [e] at h; cases h
    | some n =>
      rw [e] at h; cases h
      obtain ⟨u, u1, _, u3⟩ := k6 j (.int .i64 n) (by rw [List.getElem?_map, e]; rfl)
      simp only [RepP] at u3
      rw [u1, u3]
  have h1 : ∀ (Z : List Int) u, u ∈ Z.map (Value.int .i64) → u.oneCell' = true := fun Z u h => by
    obtain ⟨n, _, rfl⟩ := List.mem_map.1 h; rfl
  have key := rpl_all (ι 0).B (ι 0).off L.length cap i vb voff v.length c3 (L.map (Value.int .i64)) (v.map (Value.int .i64)) w hi hv1 hle (by omega) (by omega) hvb (by simp) (by simp) cs E lo hi' hcell (by omega) hfr hcs hvs (h1 L) (h1 v)
  have hrs : (L.map (Value.int .i64)).take i ++ (v.map (Value.int .i64) ++ (L.map (Value.int .i64)).drop (i + 1)) = rs.map (Value.int .i64) := by simp [rs, List.map_take, List.map_drop]
  rw [hrs] at key
  rw [show (((i + 1 : Nat) : Int)) = (i : Int) + 1 by omega] at key
  rw [List.length_map]
  refine key.mono ?_
  rintro e w' ⟨B, o, k, rfl, r1, r2, r3, ⟨C, E', lo', hi2, r4, r5, r6⟩, r7, r8⟩
  rw [List.length_map] at r1
  let ι' : Nat → Loc := updL ι 4 ⟨B, o, k, 0, noInn⟩
  have hBo : B = (ι 0).B ∨ B = w.heap.size := r7.imp (fun h => h.1) id
  have hι : ι' 4 = ⟨B, o, k, 0, noInn⟩ := by simp only [ι', updL, if_true]
  have hK : Keep w w' (argM ag ι) := ⟨r3.os, r3.tape, r3.output, r3.size, fun j hj hM => r3.other j hj fun e => by
    rcases hBo with h | h
    · exact hM ((heldA j).2 (e.trans h))
    · omega, fun _ => r3.drawn⟩
  refine ⟨_, ι', rfl, fun j hj => LocEq.of_eq (by simp only [ι', updL]; rw [if_neg (by simp at hj; omega)]), hK, ⟨fun id => ?_, fun id id' B' ho ho' => ?_⟩, ?_⟩
  · rw [show postH _ _ _ _ id = _ from eP id]
    split
    · rename_i e
      subst e
      rw [hι]
      refine ⟨by rw [List.length_map]; exact r1, r2, .inr ⟨⟨C, E', lo', hi2, r4, r5, .inl r6⟩, ?_, ?_⟩⟩
      · rw [RepC_iff]
        intro j x hx
        obtain ⟨n, hn, rfl⟩ := intL_get hx
        exact ⟨.int .i64 n, r8 j _ (by rw [List.getElem?_map, hn]; rfl), rfl, by simp only [RepP]⟩
      · rcases hBo with h | h
        · exact .inr ⟨rfl, (heldA B).2 h⟩
        · exact .inl ⟨by show w.heap.size ≤ B; omega, hG B (by omega)⟩
    · trivial
  · rw [show postH _ _ _ _ id = _ from eP id] at ho
    rw [show postH _ _ _ _ id' = _ from eP id'] at ho'
    split at ho
    · split at ho'
      · omega
      · exact ho'.elim
    · exact ho.elim
  · show RepA w' _ G ι' (.ref 4 0 (rs.map (PV.int .i64)).length) _
    rw [RepA]
    refine ⟨some ⟨B, o, none⟩, k, by simp, by rw [List.length_map]; exact r1, ?_, ?_, .inr ?_⟩
    · rw [hι]; simp
    · rw [hι]; exact r2
    · rw [hι]; simp
end Go.Gl
