import Derived.Test.YtcdibodjkdoknaaWAll
import Derived.WalkKit
import Derived.Lib.SliceRun
import Derived.Laws.IdiomCopy
import Derived.Deep.RegionLaw
namespace Go.Proofs.Ytcdibodjkdoknaa.Sl
open Go.RowKit YtcdibodjkdoknaaW.PrintWords YtcdibodjkdoknaaW.PrintLast YtcdibodjkdoknaaW.PrintMore Go.Lib
set_option linter.unusedVariables false

theorem Reps.drop_ {α : Type} {R : α → List Value → Prop} {size : Nat} {ps : List α} {cs : List Value} (h : Reps R size ps cs) (j : Nat) : Reps R size (ps.drop j) (cs.drop (j * size)) := by
  refine ⟨by rw [List.length_drop, List.length_drop, h.1, Nat.sub_mul], fun i p hp => ?_⟩
  rw [List.getElem?_drop] at hp
  rw [List.drop_drop, ← Nat.add_mul]
  exact h.2 _ _ hp
theorem Reps.take_ {α : Type} {R : α → List Value → Prop} {size : Nat} {ps : List α} {cs : List Value} (h : Reps R size ps cs) (j : Nat) : Reps R size (ps.take j) (cs.take (j * size)) := by
  refine ⟨by rw [List.length_take, List.length_take, h.1, ← Nat.mul_min_mul_right], fun i p hp => ?_⟩
  have hi : i < j := by
    have := (List.getElem?_eq_some_iff.1 hp).1
    rw [List.length_take] at this; omega
  rw [List.getElem?_take, if_pos hi] at hp
  have hle : i * size + size ≤ j * size := by rw [← Nat.succ_mul]; exact Nat.mul_le_mul_right _ hi
  rw [List.drop_take, List.take_take, Nat.min_eq_left (by omega)]
  exact h.2 _ _ hp
theorem Reps.append_ {α : Type} {R : α → List Value → Prop} {size : Nat} {ps qs : List α} {cs ds : List Value} (h : Reps R size ps cs) (k : Reps R size qs ds) : Reps R size (ps ++ qs) (cs ++ ds) := by
  refine ⟨by rw [List.length_append, List.length_append, h.1, k.1, Nat.add_mul], fun i p hp => ?_⟩
  rcases Nat.lt_or_ge i ps.length with hi | hi
  · rw [List.getElem?_append_left hi] at hp
    have hle : i * size + size ≤ cs.length := by rw [h.1, ← Nat.succ_mul]; exact Nat.mul_le_mul_right _ hi
    rw [List.drop_append_of_le_length (by omega), List.take_append_of_le_length (by rw [List.length_drop]; omega)]
    exact h.2 _ _ hp
  · rw [List.getElem?_append_right hi] at hp
    have hle : cs.length ≤ i * size := by rw [h.1]; exact Nat.mul_le_mul_right _ hi
    rw [List.drop_append, List.drop_eq_nil_of_le hle, List.nil_append, h.1, ← Nat.sub_mul]
    exact k.2 _ _ hp
theorem Reps.one_ {α : Type} {R : α → List Value → Prop} {size : Nat} {ps : List α} {cs : List Value} (h : Reps R size ps cs) (h1 : ∀ p c, R p c → ∀ u ∈ c, u.oneCell' = true) : ∀ u ∈ cs, u.oneCell' = true := by
  intro u hu
  obtain ⟨q, hq, rfl⟩ := List.getElem_of_mem hu
  have hq' : q < ps.length * size := by rw [← h.1]; exact hq
  have hs : 0 < size := by
    rcases Nat.eq_zero_or_pos size with h0 | h0
    · rw [h0, Nat.mul_zero] at hq'; omega
    · exact h0
  have hd : q / size < ps.length := (Nat.div_lt_iff_lt_mul hs).2 hq'
  have hm : q % size < size := Nat.mod_lt _ hs
  have he : q / size * size + q % size = q := by rw [Nat.mul_comm]; exact Nat.div_add_mod q size
  refine h1 _ _ (h.2 (q / size) ps[q / size] (List.getElem?_eq_getElem hd)) _ (List.mem_iff_getElem?.2 ⟨q % size, ?_⟩)
  rw [List.getElem?_take, if_pos hm, List.getElem?_drop, he]
  exact List.getElem?_eq_getElem hq
end Go.Proofs.Ytcdibodjkdoknaa.Sl
