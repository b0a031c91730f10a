import Derived.Test.YtpigjmjbfpipnaaWAll
import Derived.WalkKit
import Derived.Lib.SliceRun
import Derived.Laws.IdiomCopy
import Derived.Deep.RegionLaw
namespace Go.Proofs.Ytpigjmjbfpipnaa.Sl
open Go.RowKit YtpigjmjbfpipnaaW.PrintWords YtpigjmjbfpipnaaW.PrintLast YtpigjmjbfpipnaaW.PrintMore Go.Lib
set_option linter.unusedVariables false

theorem run_clear_cells (P : Program) (w : World) (t e ty : TypeId) (z : Value) (ht : P.underlying t = some (.slice e)) (hv : ∀ w, (zeroValue e).run P w = .ok z w) (h1 : ∀ u ∈ z.cells, u.oneCell' = true) (b o n c : Nat) (hn : 0 < n)
    (hc : ∀ j, j < z.cells.size * n → (w.cell? ⟨b, o + j, none⟩).isSome = true) (hf : ∀ j, j < z.cells.size * n → w.frozen? ⟨b, o + j, none⟩ = false) :
    (Builtin.clear_ #[t] ty #[.slice (some ⟨b, o, none⟩) n c]).run P w = .ok (.tuple #[]) (w.setCells b o (Builtin.zeroCells z.cells n).toList) := by
  have hl : (Builtin.zeroCells z.cells n).toList.length = z.cells.size * n := by simp [Builtin.zeroCells, Nat.mul_comm]
  have hst := run_storeCells_cells (P := P) b o (Builtin.zeroCells z.cells n).toList 0 w (by rw [hl]; simpa using hc) (by rw [hl]; simpa using hf) (by
    intro v hv'
    simp only [Builtin.zeroCells, Array.toList_map, List.mem_map, Array.mem_toList_iff, Array.mem_range] at hv'
    obtain ⟨i, hi, rfl⟩ := hv'
    have hz : 0 < z.cells.size := by
      rcases Nat.eq_zero_or_pos z.cells.size with h0 | h0
      · rw [h0] at hi; omega
      · exact h0
    rw [getElem!_pos z.cells (i % z.cells.size) (Nat.mod_lt _ hz)]
    exact h1 _ (Array.getElem_mem _))
  simp only [Nat.add_zero] at hst
  obtain ⟨m, rfl⟩ : ∃ m, n = m + 1 := ⟨n - 1, by omega⟩
  simp [Builtin.clear_, run_underlying ht, hv, hst]
theorem run_copy_cells_ (P : Program) (w : World) (dT sT ty elem : TypeId) (size : Nat) (b o dLen dCap : Nat) (a : Addr) (sLen sCap : Nat) (cs : List Value)
    (hu : P.underlying dT = some (.slice elem)) (hs : (P.info? elem).map (·.size) = some size) (hn : cs.length = Nat.min sLen dLen * size)
    (hsrc : ∀ j v, cs[j]? = some v → w.cell? (a.add j) = some v) (hc : ∀ j, j < cs.length → (w.cell? ⟨b, o + j, none⟩).isSome = true) (hf : ∀ j, j < cs.length → w.frozen? ⟨b, o + j, none⟩ = false) (h1 : ∀ v ∈ cs, v.oneCell' = true) :
    (Builtin.copy_ #[dT, sT] ty #[.slice (some ⟨b, o, none⟩) dLen dCap, .slice (some a) sLen sCap]).run P w = .ok (goInt (Nat.min sLen dLen)) (w.setCells b o cs) := by
  have hl := run_loadCells_list (P := P) w a cs hsrc
  have hst := run_storeCells_cells (P := P) b o cs 0 w (by simpa using hc) (by simpa using hf) h1
  cases hq : P.info? elem with
  | none => simp [hq] at hs
  | some i =>
    have hi : i.size = size := by simpa [hq] using hs
    simp [Builtin.copy_, run_underlying hu, Builtin.lenOf, Builtin.firstCells, sizeOf, typeInfo, hq, hi, ← hn, hl, hst]
theorem cell_of_block {w : World} {g : Nat} {cur : Array Value} {e : TypeId} (hg : w.heap[g]? = some (.cells cur e (0,0))) {o : Nat} {u : Value} (h : cur.toList[o]? = some u) : w.cell? ⟨g, o, none⟩ = some u := by
  rw [Array.getElem?_toList] at h
  exact (blk_cell hg o).trans h
theorem isSome_setCells (b : Nat) (p : Addr) : ∀ (vs : List Value) (o : Nat) (w : World), (w.cell? p).isSome = true → ((w.setCells b o vs).cell? p).isSome = true
  | [], _, _, h => h
  | v :: vs, o, w, h => isSome_setCells b p vs (o + 1) _ (by
      obtain ⟨u, hu⟩ := Option.isSome_iff_exists.1 h
      obtain ⟨v', hv'⟩ := cell?_setCell_some (p := ⟨b, o, none⟩) (x := v) hu
      rw [hv']; rfl)
theorem frozen_setCells (b : Nat) (p : Addr) : ∀ (vs : List Value) (o : Nat) (w : World), w.frozen? p = false → (w.setCells b o vs).frozen? p = false
  | [], _, _, h => h
  | v :: vs, o, w, h => frozen_setCells b p vs (o + 1) _ (by rw [World.frozen?_setCell]; exact h)
theorem heap_setCells (b : Nat) : ∀ (vs : List Value) (o : Nat) (w : World) (k : Nat), k ≠ b → (w.setCells b o vs).heap[k]? = w.heap[k]?
  | [], _, _, _, _ => rfl
  | v :: vs, o, w, k, h => (heap_setCells b vs (o + 1) _ k h).trans (Below.heap_setCell w ⟨b, o, none⟩ v k h)
theorem size_setCells (b : Nat) : ∀ (vs : List Value) (o : Nat) (w : World), (w.setCells b o vs).heap.size = w.heap.size
  | [], _, _ => rfl
  | v :: vs, o, w => (size_setCells b vs (o + 1) _).trans (by simp [World.setCell])
theorem below_setCells {B : Nat} {w0 : World} (b : Nat) (hb : B ≤ b) : ∀ (vs : List Value) (o : Nat) (w : World), Below B w0 w → Below B w0 (w.setCells b o vs)
  | [], _, _, h => h
  | v :: vs, o, w, h => below_setCells b hb vs (o + 1) _ (h.setCell hb _)
theorem obj_setCells {g : Nat} {e : TypeId} : ∀ (vs : List Value) (o : Nat) (w : World) (cur : Array Value), w.heap[g]? = some (.cells cur e (0, 0)) → o + vs.length ≤ cur.size →
    ∃ cur' : Array Value, (w.setCells g o vs).heap[g]? = some (.cells cur' e (0, 0)) ∧ cur'.toList = cur.toList.take o ++ vs ++ cur.toList.drop (o + vs.length)
  | [], o, w, cur, h, _ => ⟨cur, h, by simp⟩
  | v :: vs, o, w, cur, h, hl => by
    have hl' : o + (vs.length + 1) ≤ cur.size := hl
    have h2 := blk_put h o v rfl
    obtain ⟨cur', h3, h4⟩ := obj_setCells vs (o + 1) _ _ h2 (by rw [Array.size_setIfInBounds]; omega)
    refine ⟨cur', h3, ?_⟩
    have hc : o < cur.toList.length := by rw [Array.length_toList]; omega
    have e1 : (cur.toList.set o v).take (o + 1) = cur.toList.take o ++ [v] := by
      rw [List.take_add_one, List.getElem?_set_self hc, List.take_set_of_le (Nat.le_refl _)]; rfl
    rw [h4, Array.toList_setIfInBounds, List.drop_set_of_lt (by omega), e1, List.append_assoc (cur.toList.take o), List.length_cons, show o + 1 + vs.length = o + (vs.length + 1) by omega]
    simp
theorem row_anew {α : Type} {d : Kd α} {e : Nat} {w W : World} {base : Nat} {ok : Nat → Prop} {g n c n' : Nat} {xs xs' : List α} {cur' : Array Value} {inner : List Value} (h : d.R e w base ok (.slice (some ⟨g, 0, none⟩) n c) xs)
    (hW : ∀ k, k ≠ g → W.heap[k]? = w.heap[k]?) (hg : W.heap[g]? = some (.cells cur' e (0, 0))) (hs : cur'.size = c * d.sz) (hb : base ≤ g) (hc : c ≤ maxLen) (hn : xs'.length = n') (hn' : n' ≤ c) (ht : cur'.toList.take (n' * d.sz) = inner)
    (hr : Reps (d.M w base (fun k => ok k ∧ some k ≠ (Value.slice (some ⟨g, 0, none⟩) n c).ownBlock)) d.sz xs' inner) : d.R e W base ok (.slice (some ⟨g, 0, none⟩) n' c) xs' := by
  refine ⟨fun k hk => h.1 k hk, inner, ⟨?_, .inr ⟨g, c, cur', by rw [hn], hb, hg, by omega, hc, hs, by rw [hn]; exact ht⟩⟩, ?_⟩
  · exact hr.1
  · exact hr.imp_ (fun p c hp => d.M_move (fun k hk => hW k (fun e => hk.2 (by rw [e]; rfl))) hp)
theorem Reps.drop_ {α : Type} {R : α → List Value → Prop} {size : Nat} {ps : List α} {cs : List Value} (h : Reps R size ps cs) (j : Nat) : Reps R size (ps.drop j) (cs.drop (j * size)) := by
  refine ⟨by rw [List.length_drop, List.length_drop, h.1, Nat.sub_mul], fun i p hp => ?_⟩
  rw [List.getElem?_drop] at hp
  rw [List.drop_drop, ← Nat.add_mul]
  exact h.2 _ _ hp
theorem Reps.take_ {α : Type} {R : α → List Value → Prop} {size : Nat} {ps : List α} {cs : List Value} (h : Reps R size ps cs) (j : Nat) : Reps R size (ps.take j) (cs.take (j * size)) := by
  refine ⟨by rw [List.length_take, List.length_take, h.1, ← Nat.mul_min_mul_right], fun i p hp => ?_⟩
  have hi : i < j := by
    have := (List.getElem?_eq_some_iff.1 hp).1
    rw [List.length_take] at this; omega
  rw [List.getElem?_take, if_pos hi] at hp
  have hle : i * size + size ≤ j * size := by rw [← Nat.succ_mul]; exact Nat.mul_le_mul_right _ hi
  rw [List.drop_take, List.take_take, Nat.min_eq_left (by omega)]
  exact h.2 _ _ hp
theorem Reps.append_ {α : Type} {R : α → List Value → Prop} {size : Nat} {ps qs : List α} {cs ds : List Value} (h : Reps R size ps cs) (k : Reps R size qs ds) : Reps R size (ps ++ qs) (cs ++ ds) := by
  refine ⟨by rw [List.length_append, List.length_append, h.1, k.1, Nat.add_mul], fun i p hp => ?_⟩
  rcases Nat.lt_or_ge i ps.length with hi | hi
  · rw [List.getElem?_append_left hi] at hp
    have hle : i * size + size ≤ cs.length := by rw [h.1, ← Nat.succ_mul]; exact Nat.mul_le_mul_right _ hi
    rw [List.drop_append_of_le_length (by omega), List.take_append_of_le_length (by rw [List.length_drop]; omega)]
    exact h.2 _ _ hp
  · rw [List.getElem?_append_right hi] at hp
    have hle : cs.length ≤ i * size := by rw [h.1]; exact Nat.mul_le_mul_right _ hi
    rw [List.drop_append, List.drop_eq_nil_of_le hle, List.nil_append, h.1, ← Nat.sub_mul]
    exact k.2 _ _ hp
theorem Reps.one_ {α : Type} {R : α → List Value → Prop} {size : Nat} {ps : List α} {cs : List Value} (h : Reps R size ps cs) (h1 : ∀ p c, R p c → ∀ u ∈ c, u.oneCell' = true) : ∀ u ∈ cs, u.oneCell' = true := by
  intro u hu
  obtain ⟨q, hq, rfl⟩ := List.getElem_of_mem hu
  have hq' : q < ps.length * size := by rw [← h.1]; exact hq
  have hs : 0 < size := by
    rcases Nat.eq_zero_or_pos size with h0 | h0
    · rw [h0, Nat.mul_zero] at hq'; omega
    · exact h0
  have hd : q / size < ps.length := (Nat.div_lt_iff_lt_mul hs).2 hq'
  have hm : q % size < size := Nat.mod_lt _ hs
  have he : q / size * size + q % size = q := by rw [Nat.mul_comm]; exact Nat.div_add_mod q size
  refine h1 _ _ (h.2 (q / size) ps[q / size] (List.getElem?_eq_getElem hd)) _ (List.mem_iff_getElem?.2 ⟨q % size, ?_⟩)
  rw [List.getElem?_take, if_pos hm, List.getElem?_drop, he]
  exact List.getElem?_eq_getElem hq
theorem kept_of {w W : World} {S : Nat → Prop} {g : Nat} (hs : w.heap.size ≤ W.heap.size) (h : ∀ k, k ≠ g → W.heap[k]? = w.heap[k]?) (hg : S g) : Kept w W S := ⟨hs, fun i _ hn => h i (fun e => hn (e ▸ hg))⟩
end Go.Proofs.Ytpigjmjbfpipnaa.Sl
