-- By a program of this session.
import Derived.Test.YtpigjmjbfpipnaaPFx0
namespace Go.Proofs.Ytpigjmjbfpipnaa.PF
open Go.RowKit YtpigjmjbfpipnaaW.PrintWords YtpigjmjbfpipnaaW.PrintLast YtpigjmjbfpipnaaW.PrintMore Sh Ytpigjmjbfpipnaa.Op
attribute [local go_sem] max2_int min2_int max_two min_two max_three min_three max_four min_four
set_option linter.unusedVariables false
set_option linter.unusedSimpArgs false
section
open Go.Lib Go.Sort Sl
set_option maxHeartbeats 8000000 in
set_option maxRecDepth 100000 in
/-- There is room: in place. -/
theorem api_File_108.cells (g n c i vb m vc : Nat) (cur curv : Array Value) (cs vs : List Value) (w : World) (hg : w.heap[g]? = some (.cells cur 71 (0,0))) (hcur : cur.size = c * 3) (hgv : w.heap[vb]? = some (.cells curv 71 (0,0)))
    (hi : i < n) (hm : 0 < m) (hroom : n + m ≤ c) (hc63 : c ≤ 9223372036854775807) (hvb : vb ≠ g)
    (hcs : cs = cur.toList.take (n * 3)) (hvs : vs = curv.toList.take (m * 3)) (hvl : vs.length = m * 3) (h1c : ∀ v ∈ cs, v.oneCell' = true) (h1v : ∀ v ∈ vs, v.oneCell' = true) :
    Calls Try.prog 108 #[.slice (some ⟨g, 0, none⟩) n c, .int .i64 i, .slice (some ⟨vb, 0, none⟩) m vc] w fun e w' =>
      e = .returned (.slice (some ⟨g, 0, none⟩) (n + m) c) ∧ w' = (w.drew.setCells g ((i + m) * 3) (cs.drop (i * 3))).setCells g (i * 3) vs := by
  have hz1 : ¬ ((m : Int) = 0) := by omega
  have hz2 : ¬ ((i : Int) = (n : Int)) := by omega
  have hsz : (Try.prog.info? 71).map (·.size) = some 3 := by
    obtain ⟨i0, hi0, hii⟩ := Option.map_eq_some_iff.1 info71
    simp only [Prod.mk.injEq] at hii
    rw [hi0]; simp [hii.2.1]
  have hsa : w.shape? vb = some (71, curv.size) := by simp [World.shape?, hgv]
  have hsb : w.shape? g = some (71, cur.size) := by simp [World.shape?, hg]
  have hov : ∀ lb cb, (callFunc 112 #[.slice (some ⟨vb, 0, none⟩) m vc, .slice (some ⟨g, (i + m) * 3, none⟩) lb cb]).run Try.prog w = .ok (.value (.bool false)) w := fun lb cb => by
    rw [run_callFunc_extern Try.func112 (by kernel_rfl) (by kernel_rfl) (by kernel_rfl) (e := Extern.SlicesOverlaps.overlaps #[22, 22] #[4]) (by kernel_rfl),
      Lib.run_overlaps_apart w 22 4 71 Try.underlying22 3 Try.sizeOf71 ⟨vb, 0, none⟩ ⟨g, (i + m) * 3, none⟩ m vc lb cb hvb 71 71 curv.size cur.size hsa hsb (by omega) (blk_frozen hgv _) (blk_frozen hgv _)]
    rfl
  have hcl0 : cur.toList.length = c * 3 := by simpa using hcur
  have hcl : cs.length = n * 3 := by rw [hcs, List.length_take, hcl0]; omega
  have hdl : (cs.drop (i * 3)).length = (n - i) * 3 := by rw [List.length_drop, hcl]; omega
  have hsome : ∀ t, t < c * 3 → (w.cell? ⟨g, t, none⟩).isSome = true := by
    intro t ht
    rw [cell_of_block hg (List.getElem?_eq_getElem (by omega))]; rfl
  have hcsr : ∀ j v, cs[j]? = some v → w.cell? ⟨g, j, none⟩ = some v := fun j v hj => by
    have hj' : j < n * 3 := by rw [← hcl]; exact (List.getElem?_eq_some_iff.1 hj).1
    rw [hcs, List.getElem?_take, if_pos hj'] at hj
    exact cell_of_block hg hj
  have hvsr : ∀ j v, vs[j]? = some v → w.cell? ⟨vb, j, none⟩ = some v := fun j v hj => by
    have hj' : j < m * 3 := by rw [← hvl]; exact (List.getElem?_eq_some_iff.1 hj).1
    rw [hvs, List.getElem?_take, if_pos hj'] at hj
    exact cell_of_block hgv hj
  have mixed : Try.prog.follows Departure.mixedOrders = true := by kernel_rfl
  have hw1 : IntKind.i64.wrap ((i : Int) + (m : Int)) = (i : Int) + (m : Int) := by rw [IntKind.wrap_i64]; omega
  have hb1 : (0 : Int) ≤ (i : Int) + (m : Int) := by omega
  have hin : i ≤ n := by omega
  have htn : ((i : Int) + (m : Int)).toNat = i + m := by omega
  have hb2 : ¬ (c = i + m) := by omega
  have hb3 : (i : Int) ≤ (n : Int) + (m : Int) := by omega
  have hb4 : ¬ (c = i) := by omega
  have hcp1 : ∀ ty dc sc, (Builtin.copy_ #[22, 22] ty #[.slice (some ⟨g, (i + m) * 3, none⟩) (n + m - (i + m)) dc, .slice (some ⟨g, i * 3, none⟩) (n + m - i) sc]).run Try.prog w.drew = .ok (goInt (Nat.min (n + m - i) (n + m - (i + m)))) (w.drew.setCells g ((i + m) * 3) (cs.drop (i * 3))) := fun ty dc sc =>
    run_copy_cells_ Try.prog w.drew _ _ ty 71 3 g ((i + m) * 3) (n + m - (i + m)) dc ⟨g, i * 3, none⟩ (n + m - i) sc (cs.drop (i * 3)) Try.underlying22 hsz (by rw [hdl]; simp only [Nat.min_def]; split <;> omega)
      (fun j v hj => by rw [Addr.add_lit]; exact hcsr (i * 3 + j) v (by rwa [List.getElem?_drop] at hj))
      (fun j hj => hsome _ (by omega)) (fun j hj => blk_frozen hg _) (fun v hv => h1c v (List.mem_of_mem_drop hv))
  obtain ⟨W1, hW1⟩ : ∃ W1, W1 = w.drew.setCells g ((i + m) * 3) (cs.drop (i * 3)) := ⟨_, rfl⟩
  have hcp2 : ∀ (W : World), (∀ x, W.cell? x = W1.cell? x) → (∀ x, W.frozen? x = W1.frozen? x) → ∀ ty dc, (Builtin.copy_ #[22, 22] ty #[.slice (some ⟨g, i * 3, none⟩) (n + m - i) dc, .slice (some ⟨vb, 0, none⟩) m vc]).run Try.prog W = .ok (goInt (Nat.min m (n + m - i))) (W.setCells g (i * 3) vs) := fun W hWc hWf ty dc =>
    run_copy_cells_ Try.prog W _ _ ty 71 3 g (i * 3) (n + m - i) dc ⟨vb, 0, none⟩ m vc vs Try.underlying22 hsz (by rw [hvl]; simp only [Nat.min_def]; split <;> omega)
      (fun j v hj => by
        rw [Addr.add_lit, hWc, hW1, World.cell?_setCells_out g _ _ _ _ (fun h _ => absurd h hvb), Nat.zero_add]
        exact hvsr j v hj)
      (fun j hj => by rw [hWc, hW1]; exact Sl.isSome_setCells _ _ _ _ _ (hsome _ (by omega))) (fun j hj => by rw [hWf, hW1]; exact Sl.frozen_setCells _ _ _ _ _ (blk_frozen hg _)) h1v
  rw [← hW1] at hcp1
  have hHW : Hid (W1 = w.drew.setCells g ((i + m) * 3) (cs.drop (i * 3))) := hW1
  clear hcsr hvsr hsome hcl0 hg hgv hcur hsa hsb hsz hcs hvs hdl hcl hW1
  go_enter Try.func108, Try.ntmps108
  go_wp2_with (simp only [hov])
  go_region_law_o (refine step_copy_runI rfl _ _ 22 22 rfl _ _ (by simp [Act.eval, Act.put]) (by simp [Act.eval, Act.put]) (hcp1 _ _ _) ?_)
  go_wp2_with (at_builtin; refine wpList_copy_runI _ rfl _ _ 22 22 rfl _ _ rfl rfl (hcp2 _ (fun _ => rfl) (fun _ => rfl) _ _) ?_)
  go_ret
  first | exact ⟨rfl, rfl⟩ | exact ⟨rfl, by rw [hHW.out]⟩
set_option maxHeartbeats 8000000 in
set_option maxRecDepth 100000 in
/-- No room: a new row. -/
theorem api_File_108.grow (g n c i vb m vc : Nat) (cur curv : Array Value) (cs vs : List Value) (w : World) (hg : w.heap[g]? = some (.cells cur 71 (0,0))) (hcur : cur.size = c * 3) (hgv : w.heap[vb]? = some (.cells curv 71 (0,0)))
    (hi : i < n) (hm : 0 < m) (hnc : n ≤ c) (hroom : c < n + m) (hbig : (n + m) * 40 ≤ 140737488355328)
    (hcs : cs = cur.toList.take (n * 3)) (hvs : vs = curv.toList.take (m * 3)) (hvl : vs.length = m * 3) (h1c : ∀ v ∈ cs, v.oneCell' = true) (h1v : ∀ v ∈ vs, v.oneCell' = true) :
    Calls Try.prog 108 #[.slice (some ⟨g, 0, none⟩) n c, .int .i64 i, .slice (some ⟨vb, 0, none⟩) m vc] w fun e w' => ∃ (G : Nat) (ROW : Array Value),
      e = .returned (.slice (some ⟨w.heap.size, 0, none⟩) (n + m) G) ∧ n + m ≤ G ∧ G ≤ maxLen ∧ ROW.size = G * 3 ∧ ROW.toList.take (i * 3) = cs.take (i * 3) ∧
      w' = (((w.alloc (.cells ROW 71)).drew.setCells w.heap.size (i * 3) vs).drew).setCells w.heap.size ((i + m) * 3) (cs.drop (i * 3)) := by
  obtain ⟨i0, hi0, hii⟩ := Option.map_eq_some_iff.1 info71
  simp only [Prod.mk.injEq] at hii
  obtain ⟨hz0, hzs, hzb⟩ := hii
  have hz1 : ¬ ((m : Int) = 0) := by omega
  have hz2 : ¬ ((i : Int) = (n : Int)) := by omega
  have hz3 : (c : Int) < (n : Int) + (m : Int) := by omega
  have hsz : (Try.prog.info? 71).map (·.size) = some 3 := by rw [hi0]; simp [hzs]
  have hcl0 : cur.toList.length = c * 3 := by simpa using hcur
  have hcl : cs.length = n * 3 := by rw [hcs, List.length_take, hcl0]; omega
  have hcsr : ∀ j v, cs[j]? = some v → w.cell? ⟨g, j, none⟩ = some v := fun j v hj => by
    have hj' : j < n * 3 := by rw [← hcl]; exact (List.getElem?_eq_some_iff.1 hj).1
    rw [hcs, List.getElem?_take, if_pos hj'] at hj
    exact cell_of_block hg hj
  have hvsr : ∀ j v, vs[j]? = some v → w.cell? ⟨vb, j, none⟩ = some v := fun j v hj => by
    have hj' : j < m * 3 := by rw [← hvl]; exact (List.getElem?_eq_some_iff.1 hj).1
    rw [hvs, List.getElem?_take, if_pos hj'] at hj
    exact cell_of_block hgv hj
  have hbw : g < w.heap.size := (Array.getElem?_eq_some_iff.1 hg).1
  have hvw : vb < w.heap.size := (Array.getElem?_eq_some_iff.1 hgv).1
  have hkk : (n : Int) + (m : Int) - (i : Int) = ((n + m - i : Nat) : Int) := by omega
  have hik : i + (n + m - i) = n + m := by omega
  have htl : (cs.take (i * 3)).length = i * 3 := by rw [List.length_take, hcl]; omega
  have hold : (Builtin.firstCells i0.size i (.slice (some ⟨g, 0, none⟩) i c)).run Try.prog w.drew = .ok (cs.take (i * 3)).toArray w.drew := by
    rw [hzs]
    exact run_firstCells_some w.drew 3 i ⟨g, 0, none⟩ i c (cs.take (i * 3)) htl (fun j v hj => by
      rw [Addr.add_lit, Nat.zero_add]
      rw [List.getElem?_take] at hj
      split at hj
      · exact hcsr j v hj
      · cases hj)
  obtain ⟨z, hz⟩ : ∃ z : Value, z = (.agg #[(.string ⟨#[]⟩), (.string ⟨#[]⟩), (.int .i64 0)]) := ⟨_, rfl⟩
  have hzz : z.cells.size = 3 := by rw [hz]; rfl
  rw [← hz] at hz0
  have hrz : ∀ ty, (Builtin.append_ #[22, 3] ty #[.slice (some ⟨g, 0, none⟩) i c, .int .i64 ((n : Int) + (m : Int) - (i : Int))]).run Try.prog w =
      .ok (.slice (some ⟨w.heap.size, 0, none⟩) (n + m) (grownCap w (n + m) c 71)) (w.drew.alloc (.cells ((cs.take (i * 3)).toArray ++ Builtin.zeroCells z.cells (n + m - i) ++ Builtin.zeroCells z.cells (grownCap w (n + m) c 71 - (n + m))) 71)) := fun ty => by
    have h := Lib.run_append_grow_zeros w 22 3 ty 71 i0 _ .i64 .i64 Try.underlying22 Try.underlying3 hi0 hz0 (some ⟨g, 0, none⟩) i c (cs.take (i * 3)) hold (n + m - i) (by omega) (by omega) (by omega) (by omega) (by rw [hzb]; omega) (by rw [hzb, hik]; exact growslice_fits hroom hbig)
    rw [hik] at h
    rw [hkk]
    exact h
  have hGn : n + m ≤ grownCap w (n + m) c 71 := grownCap_ge w _ _ _
  have hGm : grownCap w (n + m) c 71 ≤ maxLen := grownCap_le_maxLen w (n + m) c 71 (by unfold maxLen; omega)
  obtain ⟨G, hG⟩ : ∃ G, G = grownCap w (n + m) c 71 := ⟨_, rfl⟩
  rw [← hG] at hrz hGn hGm
  obtain ⟨ROW, hROW⟩ : ∃ ROW : Array Value, ROW = (cs.take (i * 3)).toArray ++ Builtin.zeroCells z.cells (n + m - i) ++ Builtin.zeroCells z.cells (G - (n + m)) := ⟨_, rfl⟩
  rw [← hROW] at hrz
  have hRs : ROW.size = G * 3 := by
    rw [hROW]
    simp only [Builtin.zeroCells, hzz, Array.size_append, Array.size_map, Array.size_range, List.size_toArray, htl]
    omega
  have hRt : ROW.toList.take (i * 3) = cs.take (i * 3) := by
    rw [hROW, Array.toList_append, Array.toList_append, List.append_assoc]
    exact List.take_left' htl
  have hG63 : G ≤ 9223372036854775807 := by unfold maxLen at hGm; omega
  obtain ⟨W1, hW1⟩ : ∃ W1, W1 = w.drew.alloc (.cells ROW 71) := ⟨_, rfl⟩
  rw [← hW1] at hrz
  have hN : ∀ j, j < (n + m) * 3 → (W1.cell? ⟨w.heap.size, j, none⟩).isSome = true := fun j hj => by
    rw [hW1, World.cell?_alloc_at (w := w.drew) ROW _ w.heap.size j rfl, Array.getElem?_eq_getElem (by omega)]; rfl
  have hNf : ∀ j, W1.frozen? ⟨w.heap.size, j, none⟩ = false := fun j => by rw [hW1]; exact World.frozen?_alloc_at (w := w.drew) ROW _ w.heap.size j rfl
  have hOb : ∀ j v, w.cell? ⟨g, j, none⟩ = some v → W1.cell? ⟨g, j, none⟩ = some v := fun j v h => by rw [hW1, World.cell?_alloc_past (w := w.drew) _ g j hbw]; exact h
  have hOv : ∀ j v, w.cell? ⟨vb, j, none⟩ = some v → W1.cell? ⟨vb, j, none⟩ = some v := fun j v h => by rw [hW1, World.cell?_alloc_past (w := w.drew) _ vb j hvw]; exact h
  have hcpA : ∀ (W : World), (∀ x, W.cell? x = W1.cell? x) → (∀ x, W.frozen? x = W1.frozen? x) → ∀ ty dc, (Builtin.copy_ #[22, 22] ty #[.slice (some ⟨w.heap.size, i * 3, none⟩) (n + m - i) dc, .slice (some ⟨vb, 0, none⟩) m vc]).run Try.prog W = .ok (goInt (Nat.min m (n + m - i))) (W.setCells w.heap.size (i * 3) vs) := fun W hWc hWf ty dc =>
    run_copy_cells_ Try.prog W _ _ ty 71 3 w.heap.size (i * 3) (n + m - i) dc ⟨vb, 0, none⟩ m vc vs Try.underlying22 hsz (by rw [hvl]; simp only [Nat.min_def]; split <;> omega)
      (fun j v hj => by rw [Addr.add_lit, hWc, Nat.zero_add]; exact hOv _ v (hvsr j v hj))
      (fun j hj => by rw [hWc]; exact hN _ (by omega)) (fun j hj => by rw [hWf]; exact hNf _) h1v
  have hGi : ¬ (G = i) := by omega
  have hGim : ¬ (G = i + m) := by omega
  have hci : ¬ (c = i) := by omega
  have hbN : g ≠ w.heap.size := by omega
  have hdl : (cs.drop (i * 3)).length = (n - i) * 3 := by rw [List.length_drop, hcl]; omega
  have hcpB : ∀ (W : World), (∀ x, W.cell? x = (W1.setCells w.heap.size (i * 3) vs).cell? x) → (∀ x, W.frozen? x = (W1.setCells w.heap.size (i * 3) vs).frozen? x) → ∀ ty dc sc, (Builtin.copy_ #[22, 22] ty #[.slice (some ⟨w.heap.size, (i + m) * 3, none⟩) (n + m - (i + m)) dc, .slice (some ⟨g, i * 3, none⟩) (n - i) sc]).run Try.prog W = .ok (goInt (Nat.min (n - i) (n + m - (i + m)))) (W.setCells w.heap.size ((i + m) * 3) (cs.drop (i * 3))) := fun W hWc hWf ty dc sc =>
    run_copy_cells_ Try.prog W _ _ ty 71 3 w.heap.size ((i + m) * 3) (n + m - (i + m)) dc ⟨g, i * 3, none⟩ (n - i) sc (cs.drop (i * 3)) Try.underlying22 hsz (by rw [hdl]; simp only [Nat.min_def]; split <;> omega)
      (fun j v hj => by
        rw [Addr.add_lit, hWc, World.cell?_setCells_out _ _ _ _ _ (fun h _ => absurd h hbN)]
        exact hOb _ v (hcsr (i * 3 + j) v (by rwa [List.getElem?_drop] at hj)))
      (fun j hj => by rw [hWc]; exact Sl.isSome_setCells _ _ _ _ _ (hN _ (by omega)))
      (fun j hj => by rw [hWf]; exact Sl.frozen_setCells _ _ _ _ _ (hNf _)) (fun v hv => h1c v (List.mem_of_mem_drop hv))
  subst hW1
  have hE1 : ∀ x, ((w.alloc (.cells ROW 71)).drew).cell? x = (w.drew.alloc (.cells ROW 71)).cell? x := fun x => rfl
  have hE2 : ∀ x, ((w.alloc (.cells ROW 71)).drew).frozen? x = (w.drew.alloc (.cells ROW 71)).frozen? x := fun x => rfl
  have hF1 : ∀ x, (((w.alloc (.cells ROW 71)).drew.setCells w.heap.size (i * 3) vs).drew).cell? x = ((w.drew.alloc (.cells ROW 71)).setCells w.heap.size (i * 3) vs).cell? x := fun x => by
    show ((w.drew.alloc (.cells ROW 71)).setCells w.heap.size (i * 3) vs).cell? x = _
    rfl
  have hF2 : ∀ x, (((w.alloc (.cells ROW 71)).drew.setCells w.heap.size (i * 3) vs).drew).frozen? x = ((w.drew.alloc (.cells ROW 71)).setCells w.heap.size (i * 3) vs).frozen? x := fun x => rfl
  have hw1 : IntKind.i64.wrap ((i : Int) + (m : Int)) = (i : Int) + (m : Int) := by rw [IntKind.wrap_i64]; omega
  have hb1 : (0 : Int) ≤ (i : Int) + (m : Int) := by omega
  have hin : i ≤ n := by omega
  have htn : ((i : Int) + (m : Int)).toNat = i + m := by omega
  have hb3 : (i : Int) ≤ (n : Int) := by omega
  clear hkk hik hold hROW hG hcsr hvsr hg hgv hcs hvs hOb hOv hz hz0 hi0 hzs hzb hcur
  have mixed : Try.prog.follows Departure.mixedOrders = true := by kernel_rfl
  have HR := a_ hRs
  have HT := a_ hRt
  clear hRs hRt
  go_enter Try.func108, Try.ntmps108
  go_wp2_with (first
    | (at_builtin; refine Lib.wpList_append_run _ rfl _ _ _ _ rfl _ _ rfl rfl _ _ (hrz _) ?_)
    | (at_builtin; refine wpList_copy_runI _ rfl _ _ 22 22 rfl _ _ rfl rfl (hcpA _ hE1 hE2 _ _) ?_)
    | (at_builtin; refine wpList_copy_runI _ rfl _ _ 22 22 rfl _ _ rfl rfl (hcpB _ (fun _ => rfl) (fun _ => rfl) _ _ _) ?_))
  go_region_law_o (refine step_copy_runI rfl _ _ 22 22 rfl (.slice (some ⟨w.heap.size, (i + m) * 3, none⟩) (n + m - (i + m)) (G - (i + m))) (.slice (some ⟨g, i * 3, none⟩) (n - i) (c - i)) (by simp [Act.eval, Act.put]) (by simp [Act.eval, Act.put]) (hcpB _ hF1 hF2 3 (G - (i + m)) (c - i)) ?_)
  go_wp2
  go_ret
  exact ⟨G, ROW, rfl, hGn, hGm, HR.out, HT.out, rfl⟩
def api_File_108.f (l0 : List (S71)) (a1 : Int) (l2 : List (S71)) : Option (List (S71)) := if 0 ≤ a1 ∧ a1 ≤ (l0.length : Int) ∧ l0.length + l2.length < 3518437208883 then some (l0.take a1.toNat ++ l2 ++ l0.drop a1.toNat) else none
set_option maxHeartbeats 8000000 in
set_option maxRecDepth 100000 in
theorem api_File_108.calls (P0_ : Nat → Prop) (u9000_ : Value) (l0 : List (S71)) (a1 : Int) (P2_ : Nat → Prop) (u9001_ : Value) (l2 : List (S71)) (r : List (S71)) (w0 w : World) (hB : Below w0.heap.size w0 w) (ho0 : Kd.R k71 71 w w0.heap.size P0_ u9000_ l0) (hp0_2 : ∀ k_, P0_ k_ → ¬ P2_ k_) (ho2 : Kd.R k71 71 w w0.heap.size P2_ u9001_ l2) (hp2_0 : ∀ k_, P2_ k_ → ¬ P0_ k_) (h : api_File_108.f l0 a1 l2 = some r) :
    Calls Try.prog 108 #[u9000_, .int .i64 a1, u9001_] w fun e w' => ∃ v0_ : Value, e = .returned (v0_) ∧ Kd.R k71 71 w' w0.heap.size (fun k_ => ((P0_ k_ ∨ P2_ k_) ∨ w.heap.size ≤ k_)) v0_ r ∧ Below w0.heap.size w0 w' ∧ Kept w w' (fun k_ => P0_ k_ ∨ P2_ k_) := by
  unfold api_File_108.f at h
  split at h
  case isFalse => cases h
  case isTrue hc =>
  obtain ⟨hi, hin, hlim⟩ := hc
  obtain rfl := Option.some.inj h
  obtain ⟨i, rfl⟩ := Int.eq_ofNat_of_zero_le hi
  simp only [Int.toNat_natCast]
  have hin : i ≤ l0.length := Int.ofNat_le.1 hin
  clear h hi
  have hbase : w0.heap.size ≤ w.heap.size := hB.size
  by_cases hm0 : l2.length = 0
  · obtain rfl : l2 = [] := List.length_eq_zero_iff.1 hm0
    rw [List.append_nil, List.take_append_drop]
    obtain ⟨A0, c0, rfl, hc0, _⟩ := Kd.R_reads ho0
    obtain ⟨A2, c2, rfl, _, _⟩ := Kd.R_reads ho2
    have HR := a_ ho0
    have HB := a_ hB
    clear ho0 ho2 hB hm0 hlim
    obtain ⟨n, hn⟩ : ∃ n, n = l0.length := ⟨_, rfl⟩
    rw [← hn] at HR hin hc0 ⊢
    clear hn
    go_enter Try.func108, Try.ntmps108
    go_wp2
    all_goals (go_ret; exact ⟨_, rfl, Kd.R_mono (by first | exact HR.out | (have h2 := HR.out; (have hq : n = i := by omega); rw [hq] at h2; exact h2) | (have h2 := HR.out; (have hq : c0 = i := by omega); rw [hq] at h2; exact h2)) (fun k hk => .inl (.inl hk)), HB.out, Kept.refl _ _⟩)
  by_cases hie : i = l0.length
  · subst hie
    rw [List.drop_length, List.append_nil, List.take_length]
    obtain ⟨A0, c0, rfl, hc0, _⟩ := Kd.R_reads ho0
    obtain ⟨hok2, inner2, hown2, hreps2⟩ := ho2
    obtain ⟨A2, c2, rfl, _, hrow2⟩ := OwnRow.reads ⟨inner2, hown2, hreps2⟩
    have HO := a_ (Kd.R_mono (ok' := fun k_ => (P0_ k_ ∨ P2_ k_) ∨ w.heap.size ≤ k_) ho0 (fun k hk => .inl (.inl hk)))
    have HK := a_ ho0.1
    have HR := a_ hrow2
    have HB := a_ hB
    have hne : ∀ k, P2_ k → some k ≠ (Value.slice A0 l0.length c0).ownBlock := fun k hk he => hp2_0 k hk (ho0.1 k he.symm)
    have HN := a_ hne
    have hz1 : ¬ ((l2.length : Int) = 0) := by omega
    have HL := a_ hlim
    clear ho0 hown2 hreps2 hrow2 hB hne hlim hok2 hbase
    go_enter Try.func108, Try.ntmps108
    go_wp2_with (at_builtin; refine Kd.R_append_rows k71 (w0 := w0) w0.heap.size rfl (.tmp 23) (.tmp 24) 22 71 (.agg #[(.string ⟨#[]⟩), (.string ⟨#[]⟩), (.int .i64 0)]) 40 rfl Try.underlying22 info71 rfl (by decide) (by omega) (.slice A0 l0.length c0) l0 l2 A2 l2.length c2 (fun k_ => (P0_ k_ ∨ P2_ k_) ∨ w.heap.size ≤ k_) (fun k => P2_ k ∧ some k ≠ (Value.slice A2 l2.length c2).ownBlock) rfl rfl HO.out HR.out (fun _ _ h => h) (fun k hk => ⟨.inl (.inr hk.1), HN.out k hk.1⟩) (fun k hk => .inr hk) HB.out HB.out.size (by have := HL.out; omega) ?_; intro v1 w1 h1 hb1 hg1 hat1; have H1 := a_ h1; have H2 := a_ hb1; have H3 := a_ hg1; clear h1 hb1 hg1 hat1)
    all_goals go_ret
    all_goals exact ⟨_, rfl, H1.out, H2.out, Kept.of_grown H3.out (Kept.refl _ _) (fun k hk => .inl (.inl (HK.out k hk)))⟩
  have hil : i < l0.length := by omega
  have hm : 0 < l2.length := by omega
  obtain ⟨hok, inner, hown, hreps⟩ := ho0
  obtain ⟨hok2, inner2, hown2, hreps2⟩ := ho2
  rcases hown.2 with ⟨rfl, hn⟩ | ⟨g, cap, cur, rfl, hbg, hg, hcap, hcm, hcur, htake⟩
  · omega
  rcases hown2.2 with ⟨rfl, hn⟩ | ⟨vb, vc, curv, rfl, hbv, hgv, hcapv, hcmv, hcurv, htakev⟩
  · omega
  have hcur : cur.size = cap * 3 := hcur
  have htake : cur.toList.take (l0.length * 3) = inner := htake
  have htakev : curv.toList.take (l2.length * 3) = inner2 := htakev
  have hcm' : cap ≤ 9223372036854775807 := by unfold maxLen at hcm; omega
  have hR : Kd.R k71 71 w w0.heap.size P0_ (.slice (some ⟨g, 0, none⟩) l0.length cap) l0 := ⟨hok, inner, hown, hreps⟩
  have hvg : vb ≠ g := fun e => hp2_0 vb (hok2 vb rfl) (hok vb (by rw [e]; rfl))
  have hone := Reps.one_ hreps (fun p c hp => Kd.K_one _ (Kd.K_of_M _ hp))
  have hone2 := Reps.one_ hreps2 (fun p c hp => Kd.K_one _ (Kd.K_of_M _ hp))
  have hl1 : inner.length = l0.length * 3 := hown.1
  have hl2 : inner2.length = l2.length * 3 := hown2.1
  have hcl : cur.toList.length = cap * 3 := by simpa using hcur
  have hdl : (inner.drop (i * 3)).length = (l0.length - i) * 3 := by rw [List.length_drop, hl1]; omega
  have e1 : (inner.take (i * 3)).length = i * 3 := by rw [List.length_take, hl1]; omega
  have hxs : (l0.take i ++ l2 ++ l0.drop i).length = l0.length + l2.length := by simp only [List.length_append, List.length_take, List.length_drop]; omega
  by_cases hroom : l0.length + l2.length ≤ cap
  ·refine (api_File_108.cells g l0.length cap i vb l2.length vc cur curv inner inner2 w hg hcur hgv hil hm hroom hcm' hvg htake.symm htakev.symm hl2 hone hone2).mono ?_
   rintro e w' ⟨rfl, rfl⟩
   obtain ⟨cur1, hg1, hc1⟩ := obj_setCells (g := g) (e := 71) (inner.drop (i * 3)) ((i + l2.length) * 3) w.drew cur hg (by rw [hdl, hcur]; omega)
   have hcl1 : cur1.toList.length = cap * 3 := by rw [hc1]; simp only [List.length_append, List.length_take, List.length_drop, hcl, hl1]; omega
   obtain ⟨cur2, hg2, hc2⟩ := obj_setCells (g := g) (e := 71) inner2 (i * 3) _ cur1 hg1 (by rw [hl2, ← Array.length_toList, hcl1]; omega)
   have hcl2 : cur2.toList.length = cap * 3 := by rw [hc2]; simp only [List.length_append, List.length_take, List.length_drop, hcl1, hl2]; omega
   have hheap : ∀ k, k ≠ g → (((w.drew).setCells g ((i + l2.length) * 3) (inner.drop (i * 3))).setCells g (i * 3) inner2).heap[k]? = w.heap[k]? := fun k hk => (heap_setCells g inner2 _ _ k hk).trans (heap_setCells g _ _ _ k hk)
   refine ⟨_, rfl, ?_, ?_, ?_⟩
   · refine row_anew (Kd.R_mono (ok' := fun k_ => (P0_ k_ ∨ P2_ k_) ∨ w.heap.size ≤ k_) hR (fun k hk => .inl (.inl hk))) hheap hg2 (by rw [← Array.length_toList]; exact hcl2) hbg hcm hxs hroom ?_
       (Reps.append_ (Reps.append_ (Reps.imp_ (Reps.take_ hreps i) (fun p c hp => Kd.M_mono _ (fun k hk => ⟨.inl (.inl hk.1), hk.2⟩) hp)) (Reps.imp_ hreps2 (fun p c hp => Kd.M_mono _ (fun k hk => ⟨.inl (.inr hk.1), fun he => hp2_0 k hk.1 (hok k he.symm)⟩) hp))) (Reps.imp_ (Reps.drop_ hreps i) (fun p c hp => Kd.M_mono _ (fun k hk => ⟨.inl (.inl hk.1), hk.2⟩) hp)))
     show cur2.toList.take ((l0.length + l2.length) * 3) = inner.take (i * 3) ++ inner2 ++ inner.drop (i * 3)
     have e2 : cur.toList.take (i * 3) = inner.take (i * 3) := by rw [← htake, List.take_take, Nat.min_eq_left (by omega)]
     have e3 : cur1.toList.take (i * 3) = inner.take (i * 3) := by
       rw [hc1, List.append_assoc, List.take_append_of_le_length (by rw [List.length_take, hcl]; omega), List.take_take, Nat.min_eq_left (by omega), e2]
     have e4 : cur1.toList.drop (i * 3 + inner2.length) = inner.drop (i * 3) ++ cur.toList.drop ((i + l2.length) * 3 + (inner.drop (i * 3)).length) := by
       rw [hc1, List.append_assoc, List.drop_left' (by rw [List.length_take, hcl, hl2]; omega)]
     rw [hc2, e3, e4, ← List.append_assoc]
     exact List.take_left' (by simp only [List.length_append, e1, hl2, hdl]; omega)
   · exact Sl.below_setCells g hbg inner2 _ _ (Sl.below_setCells g hbg _ _ _ ⟨hB.os, hB.tape, hB.output, hB.size, hB.block⟩)
   · exact kept_of (g := g) (by rw [size_setCells, size_setCells]; exact Nat.le_refl _) hheap (.inl (hok g rfl))
  refine (api_File_108.grow g l0.length cap i vb l2.length vc cur curv inner inner2 w hg hcur hgv hil hm hcap (by omega) (by omega) htake.symm htakev.symm hl2 hone hone2).mono ?_
  rintro e w' ⟨G, ROW, rfl, hGn, hGm, hRs, hRt, rfl⟩
  have hRl : ROW.toList.length = G * 3 := by simpa using hRs
  have hnew : ((w.alloc (.cells ROW 71)).drew).heap[w.heap.size]? = some (.cells ROW 71 (0, 0)) := by show (w.heap.push _)[w.heap.size]? = _; simp
  obtain ⟨cur1, hg1, hc1⟩ := obj_setCells (g := w.heap.size) (e := 71) inner2 (i * 3) _ ROW hnew (by rw [hl2, hRs]; omega)
  have hcl1 : cur1.toList.length = G * 3 := by rw [hc1]; simp only [List.length_append, List.length_take, List.length_drop, hRl, hl2]; omega
  obtain ⟨cur2, hg2, hc2⟩ := obj_setCells (g := w.heap.size) (e := 71) (inner.drop (i * 3)) ((i + l2.length) * 3) (((w.alloc (.cells ROW 71)).drew.setCells w.heap.size (i * 3) inner2).drew) cur1 hg1 (by rw [hdl, ← Array.length_toList, hcl1]; omega)
  have hcl2 : cur2.toList.length = G * 3 := by rw [hc2]; simp only [List.length_append, List.length_take, List.length_drop, hcl1, hl1]; omega
  have hheap : ∀ k, k < w.heap.size → ((((w.alloc (.cells ROW 71)).drew.setCells w.heap.size (i * 3) inner2).drew).setCells w.heap.size ((i + l2.length) * 3) (inner.drop (i * 3))).heap[k]? = w.heap[k]? := fun k hk => by
    refine (heap_setCells w.heap.size _ _ _ k (by omega)).trans ((heap_setCells w.heap.size _ _ _ k (by omega)).trans ?_)
    show (w.heap.push _)[k]? = _
    rw [Array.getElem?_push, if_neg (Nat.ne_of_lt hk)]
  have hsize : w.heap.size ≤ ((((w.alloc (.cells ROW 71)).drew.setCells w.heap.size (i * 3) inner2).drew).setCells w.heap.size ((i + l2.length) * 3) (inner.drop (i * 3))).heap.size := by
    rw [size_setCells]
    show _ ≤ ((w.alloc (.cells ROW 71)).drew.setCells w.heap.size (i * 3) inner2).heap.size
    rw [size_setCells]
    show _ ≤ (w.heap.push _).size
    rw [Array.size_push]; omega
  have hmv : ∀ {q : Nat → Prop} {p : _} {c : List Value}, (∀ k, q k → ((P0_ k ∨ P2_ k) ∨ w.heap.size ≤ k)) → Kd.M k71 w w0.heap.size q p c → Kd.M k71 ((((w.alloc (.cells ROW 71)).drew.setCells w.heap.size (i * 3) inner2).drew).setCells w.heap.size ((i + l2.length) * 3) (inner.drop (i * 3))) w0.heap.size (fun k => ((P0_ k ∨ P2_ k) ∨ w.heap.size ≤ k) ∧ some k ≠ (Value.slice (some ⟨w.heap.size, 0, none⟩) (l0.length + l2.length) G).ownBlock) p c := fun hq hp =>
    Kd.M_mono _ (fun k hk => ⟨hq k hk.1, fun he => by
      have : k = w.heap.size := by injection he
      have := hk.2.2.1
      omega⟩) (Kd.M_move _ (fun k hk => hheap k hk.2.2.1) (Kd.M_bound _ hp))
  refine ⟨_, rfl, ⟨fun k hk => .inr (by injection hk with hk; exact Nat.le_of_eq hk), inner.take (i * 3) ++ inner2 ++ inner.drop (i * 3), ⟨?_, .inr ⟨w.heap.size, G, cur2, by rw [hxs], hbase, hg2, by omega, hGm, by rw [← Array.length_toList]; exact hcl2, ?_⟩⟩, ?_⟩, ?_, ?_⟩
  · show _ = _ * 3
    rw [hxs]; simp only [List.length_append, e1, hl2, hdl]; omega
  · show cur2.toList.take ((l0.take i ++ l2 ++ l0.drop i).length * 3) = _
    rw [hxs]
    have e3 : cur1.toList.take ((i + l2.length) * 3) = inner.take (i * 3) ++ inner2 := by
      rw [hc1, hRt]
      exact List.take_left' (by simp only [List.length_append, e1, hl2]; omega)
    rw [hc2, e3]
    exact List.take_left' (by simp only [List.length_append, e1, hl2, hdl]; omega)
  · exact Reps.append_ (Reps.append_ (Reps.imp_ (Reps.take_ hreps i) (fun p c hp => hmv (fun k hk => .inl (.inl hk.1)) hp)) (Reps.imp_ hreps2 (fun p c hp => hmv (fun k hk => .inl (.inr hk.1)) hp))) (Reps.imp_ (Reps.drop_ hreps i) (fun p c hp => hmv (fun k hk => .inl (.inl hk.1)) hp))
  · refine Sl.below_setCells w.heap.size hbase _ _ _ ?_
    have hb1 : Below w0.heap.size w0 ((w.alloc (.cells ROW 71)).drew.setCells w.heap.size (i * 3) inner2) := by
      refine Sl.below_setCells w.heap.size hbase _ _ _ ?_
      have := hB.alloc hbase (.cells ROW 71)
      exact ⟨this.os, this.tape, this.output, this.size, this.block⟩
    exact ⟨hb1.os, hb1.tape, hb1.output, hb1.size, hb1.block⟩
  · exact ⟨hsize, fun k hk _ => hheap k hk⟩
end

section
open Go.Lib Go.Sort Sl
set_option maxHeartbeats 8000000 in
set_option maxRecDepth 1000000 in
theorem api_File_109.cells (i0 : TypeInfo) (hi0 : Try.prog.info? 71 = some i0) (hz1 : i0.size = 3)
    (g n cap i j : Nat) (cur : Array Value) (w : World) (hg : w.heap[g]? = some (.cells cur 71 (0,0))) (hcur : cur.size = cap * 3) (hcap : n ≤ cap) (hm : cap ≤ 9223372036854775807) (news : List Value) (hnews : news = (cur.toList.drop (j * 3)).take ((n - j) * 3)) (h1 : ∀ u ∈ news, u.oneCell' = true) (hij : i < j) (hj : j ≤ n) :
    Calls Try.prog 109 #[.slice (some ⟨g, 0, none⟩) n cap, .int .i64 i, .int .i64 j] w fun e w' => e = .returned (.slice (some ⟨g, 0, none⟩) (i + (n - j)) cap) ∧ ∃ zs, zs.length = (j - i) * 3 ∧ w' = ((w.drew).setCells g (i * 3) news).setCells g ((i + (n - j)) * 3) zs := by
  have hcl : cur.toList.length = cap * 3 := by simpa using hcur
  have hlen : news.length = (n - j) * 3 := by rw [hnews, List.length_take, List.length_drop, hcl]; omega
  have hget : ∀ t u, news[t]? = some u → w.cell? ⟨g, j * 3 + t, none⟩ = some u := by
    intro t u hu
    have ht : t < (n - j) * 3 := by rw [← hlen]; exact (List.getElem?_eq_some_iff.1 hu).1
    rw [hnews, List.getElem?_take, if_pos ht, List.getElem?_drop] at hu
    exact cell_of_block hg hu
  have hsome : ∀ t, t < cap * 3 → (w.cell? ⟨g, t, none⟩).isSome = true := by
    intro t ht
    rw [cell_of_block hg (List.getElem?_eq_getElem (by omega))]; rfl
  obtain ⟨A, hA, hsrc⟩ : ∃ A : Addr, (if cap = j then (some (⟨g, 0, none⟩ : Addr)) else some ⟨g, j * 3, none⟩) = some A ∧ Hid (∀ t u, news[t]? = some u → w.drew.cell? (A.add t) = some u) := by
    by_cases h : cap = j
    rotate_left
    ·refine ⟨⟨g, j * 3, none⟩, by simp [h], fun t u hu => ?_⟩
     rw [Addr.add_lit]
     exact hget t u hu
    refine ⟨⟨g, 0, none⟩, by simp [h], fun t u hu => ?_⟩
    have h0 : news.length = 0 := by rw [hlen, show n - j = 0 by omega, Nat.zero_mul]
    rw [List.length_eq_zero_iff.1 h0] at hu
    simp at hu
  have s1 : Hid (news.length = (n - j) * 3) := hlen
  have s2 : Hid (∀ u ∈ news, u.oneCell' = true) := h1
  have s3 : Hid (∀ t, t < news.length → (w.drew.cell? ⟨g, 0 + i * 3 + t, none⟩).isSome = true ∧ w.drew.frozen? ⟨g, 0 + i * 3 + t, none⟩ = false) := by
    intro t ht
    rw [hlen] at ht
    exact ⟨hsome _ (by omega), blk_frozen hg _⟩
  obtain ⟨W1, hW1⟩ : ∃ W1, W1 = w.drew.setCells g (0 + i * 3) news := ⟨_, rfl⟩
  obtain ⟨z, hz⟩ : ∃ z : Value, z = (.agg #[(.string ⟨#[]⟩), (.string ⟨#[]⟩), (.int .i64 0)]) := ⟨_, rfl⟩
  have hv : ∀ w, (zeroValue 71).run Try.prog w = .ok z w := by rw [hz]; exact Try.zeroValue71
  have hzs : z.cells.size = 3 := by rw [hz]; rfl
  have hz2 : ∀ u ∈ z.cells, u.oneCell' = true := by rw [hz]; simp [Value.cells, Value.oneCell']
  clear hz
  have hcl2 : ∀ ty, (Builtin.clear_ #[22] ty #[.slice (some ⟨g, (i + (n - j)) * 3, none⟩) (n - (i + (n - j))) (cap - (i + (n - j)))]).run Try.prog W1 = .ok (.tuple #[]) (W1.setCells g ((i + (n - j)) * 3) (Builtin.zeroCells z.cells (n - (i + (n - j)))).toList) :=
    fun ty => run_clear_cells Try.prog W1 22 71 ty z Try.underlying22 hv hz2 g ((i + (n - j)) * 3) _ _ (by omega) (fun t ht => by rw [hzs] at ht; rw [hW1]; exact Sl.isSome_setCells _ _ _ _ _ (hsome _ (by omega))) (fun t ht => by rw [hW1]; exact Sl.frozen_setCells _ _ _ _ _ (blk_frozen hg _))
  have hW : Hid (W1 = w.drew.setCells g (0 + i * 3) news) := hW1
  have hic : i ≤ cap := by omega
  have hjc : j ≤ cap := by omega
  have hz9 : (Builtin.zeroCells z.cells (n - (i + (n - j)))).toList.length = (j - i) * 3 := by
    simp only [Builtin.zeroCells, hzs, Array.toList_map, List.length_map, Array.length_toList, Array.size_range]
    rw [show n - (i + (n - j)) = j - i by omega]
  obtain ⟨zs, hzs9⟩ : ∃ zs, zs = (Builtin.zeroCells z.cells (n - (i + (n - j)))).toList := ⟨_, rfl⟩
  rw [← hzs9] at hz9 hcl2
  clear hW1 hsome hget hnews hcl hg hcur hzs9
  have mixed : Try.prog.follows Departure.mixedOrders = true := by kernel_rfl
  go_enter Try.func109, Try.ntmps109
  go_wp2_with fail
  go_region_law_o (refine step_append_room rfl (.tmp 22) (.tmp 25) 22 rfl 71 i0 3 Try.underlying22 hi0 hz1 g 0 i cap (by simp [Act.eval, Act.put]) A (n - j) (cap - j) news (by simp [Act.eval, Act.put]) s1.out hsrc.out s2.out (by omega) s3.out ?_; rw [← hW.out])
  go_wp2
  go_ret
  exact ⟨rfl, zs, hz9, by rw [hW.out, Nat.zero_add]⟩
def api_File_109.f (l0 : List (S71)) (a1 : Int) (a2 : Int) : Option (List (S71)) := if 0 ≤ a1 ∧ a1 ≤ a2 ∧ a2 ≤ (l0.length : Int) then some (l0.take a1.toNat ++ l0.drop a2.toNat) else none
set_option maxHeartbeats 4000000 in
set_option maxRecDepth 100000 in
theorem api_File_109.calls (P0_ : Nat → Prop) (u9000_ : Value) (l0 : List (S71)) (a1 : Int) (a2 : Int) (r : List (S71)) (w0 w : World) (hB : Below w0.heap.size w0 w) (ho0 : Kd.R k71 71 w w0.heap.size P0_ u9000_ l0) (h : api_File_109.f l0 a1 a2 = some r) :
    Calls Try.prog 109 #[u9000_, .int .i64 a1, .int .i64 a2] w fun e w' => ∃ v0_ : Value, e = .returned (v0_) ∧ Kd.R k71 71 w' w0.heap.size (fun k_ => (P0_ k_ ∨ w.heap.size ≤ k_)) v0_ r ∧ Below w0.heap.size w0 w' ∧ Kept w w' (fun k_ => P0_ k_) := by
  unfold api_File_109.f at h
  split at h
  case isFalse => cases h
  case isTrue hc =>
  obtain ⟨hi, hij, hj⟩ := hc
  obtain rfl := Option.some.inj h
  obtain ⟨i, rfl⟩ := Int.eq_ofNat_of_zero_le hi
  obtain ⟨j, rfl⟩ := Int.eq_ofNat_of_zero_le (Int.le_trans hi hij)
  simp only [Int.toNat_natCast]
  have hij : i ≤ j := Int.ofNat_le.1 hij
  have hj : j ≤ l0.length := Int.ofNat_le.1 hj
  clear h hi
  obtain ⟨hok, inner, hown, hreps⟩ := ho0
  rcases hown.2 with ⟨rfl, hn⟩ | ⟨g, cap, cur, rfl, hbg, hg, hcap, hcm, hcur, htake⟩
  · obtain rfl : l0 = [] := List.length_eq_zero_iff.1 hn
    obtain rfl : j = 0 := by simpa using hj
    obtain rfl : i = 0 := by omega
    clear hij hj hown hreps
    go_enter Try.func109, Try.ntmps109
    go_wp2
    all_goals (go_ret; exact ⟨_, rfl, Kd.R_nil _ _ _ _ _, hB, Kept.refl _ _⟩)
  · have hcur : cur.size = cap * 3 := hcur
    have htake : cur.toList.take (l0.length * 3) = inner := htake
    have hcm' : cap ≤ 9223372036854775807 := by unfold maxLen at hcm; omega
    have hR : Kd.R k71 71 w w0.heap.size P0_ (.slice (some ⟨g, 0, none⟩) l0.length cap) l0 := ⟨hok, inner, hown, hreps⟩
    by_cases heq : i = j
    ·subst heq
     rw [List.take_append_drop]
     have hic : i ≤ cap := by omega
     obtain ⟨n, hn⟩ : ∃ n, n = l0.length := ⟨_, rfl⟩
     rw [← hn] at hR hj hcap
     have HR := a_ hR
     have HB := a_ hB
     rw [← hn]
     clear hR hB hok hown hreps hg hcur htake hcm hn
     go_enter Try.func109, Try.ntmps109
     go_wp2
     all_goals (go_ret; exact ⟨_, rfl, Kd.R_mono (by first | exact HR.out | (have h2 := HR.out; (have hq : n = i := by omega); rw [hq] at h2; exact h2)) (fun k hk => .inl hk), HB.out, Kept.refl _ _⟩)
    obtain ⟨i0, hi0, hii⟩ := Option.map_eq_some_iff.1 info71
    have hz1 : i0.size = 3 := by simp only [Prod.mk.injEq] at hii; exact hii.2.1
    have hone := Reps.one_ hreps (fun p c hp => Kd.K_one _ (Kd.K_of_M _ hp))
    have hil : inner.length = l0.length * 3 := hown.1
    have hnews : inner.drop (j * 3) = (cur.toList.drop (j * 3)).take ((l0.length - j) * 3) := by
      rw [← htake, List.drop_take, Nat.sub_mul]
    refine (api_File_109.cells i0 hi0 hz1 g l0.length cap i j cur w hg hcur hcap hcm' _ hnews (fun u hu => hone u (List.mem_of_mem_drop hu)) (by omega) hj).mono ?_
    rintro e w' ⟨rfl, zs, hzl, rfl⟩
    have hcl : cur.toList.length = cap * 3 := by simpa using hcur
    have hdl : (inner.drop (j * 3)).length = (l0.length - j) * 3 := by rw [List.length_drop, hil]; omega
    obtain ⟨cur1, hg1, hc1⟩ := obj_setCells (g := g) (e := 71) (inner.drop (j * 3)) (i * 3) w.drew cur hg (by rw [hdl, hcur]; omega)
    have hcl1 : cur1.toList.length = cap * 3 := by rw [hc1]; simp only [List.length_append, List.length_take, List.length_drop, hcl, hil]; omega
    obtain ⟨cur2, hg2, hc2⟩ := obj_setCells (g := g) (e := 71) zs ((i + (l0.length - j)) * 3) _ cur1 hg1 (by rw [hzl, ← Array.length_toList, hcl1]; omega)
    have hcl2 : cur2.toList.length = cap * 3 := by rw [hc2]; simp only [List.length_append, List.length_take, List.length_drop, hcl1, hzl]; omega
    have hheap : ∀ k, k ≠ g → (((w.drew).setCells g (i * 3) (inner.drop (j * 3))).setCells g ((i + (l0.length - j)) * 3) zs).heap[k]? = w.heap[k]? := fun k hk => (heap_setCells g zs _ _ k hk).trans (heap_setCells g _ _ _ k hk)
    refine ⟨_, rfl, ?_, ?_, ?_⟩
    · refine Kd.R_mono (row_anew hR hheap hg2 (by rw [← Array.length_toList]; exact hcl2) hbg hcm (by rw [List.length_append, List.length_take, List.length_drop]; omega) (by omega) ?_ (Reps.append_ (Reps.take_ hreps i) (Reps.drop_ hreps j))) (fun k hk => .inl hk)
      show cur2.toList.take ((i + (l0.length - j)) * 3) = inner.take (i * 3) ++ inner.drop (j * 3)
      have e1 : (inner.take (i * 3)).length = i * 3 := by rw [List.length_take, hil]; omega
      have e2 : cur.toList.take (i * 3) = inner.take (i * 3) := by rw [← htake, List.take_take, Nat.min_eq_left (by show i * 3 ≤ l0.length * 3; omega)]
      rw [hc2, hc1, e2]
      rw [List.append_assoc (List.take _ _) zs, List.take_left' (by rw [List.length_take]; simp only [List.length_append, e1, hdl, List.length_drop, hcl]; omega)]
      exact List.take_left' (by rw [List.length_append, e1, hdl]; omega)
    · exact Sl.below_setCells g hbg zs _ _ (Sl.below_setCells g hbg _ _ _ ⟨hB.os, hB.tape, hB.output, hB.size, hB.block⟩)
    · exact kept_of (g := g) (by rw [size_setCells, size_setCells]; exact Nat.le_refl _) hheap (hok g rfl)
end
end Go.Proofs.Ytpigjmjbfpipnaa.PF
