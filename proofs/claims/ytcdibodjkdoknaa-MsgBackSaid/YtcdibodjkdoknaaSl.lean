/- Slices' functions at elements of some flat cells each: what is written into a row of the call's own, told by its block. No program; no condition beside those in each row. -/
import Derived.Test.YtcdibodjkdoknaaWAll
import Derived.WalkKit
import Derived.Lib.SliceRun
import Derived.Laws.IdiomCopy
import Derived.Deep.RegionLaw
namespace Go.Proofs.Ytcdibodjkdoknaa.Sl
open Go.RowKit Go.Proofs.YtcdibodjkdoknaaW.PrintWords Go.Proofs.YtcdibodjkdoknaaW.PrintLast Go.Proofs.YtcdibodjkdoknaaW.PrintMore Go.Lib
set_option linter.unusedVariables false

theorem Reps.drop_ {α : Type} {R : α → List Value → Prop} {size : Nat} {ps : List α} {cs : List Value} (h : Reps R size ps cs) (j : Nat) : Reps R size (ps.drop j) (cs.drop (j * size)) := by
  refine ⟨by rw [List.length_drop, List.length_drop, h.1, Nat.sub_mul], fun i p hp => ?_⟩
  rw [List.getElem?_drop] at hp
  rw [List.drop_drop, ← Nat.add_mul]
  exact h.2 _ _ hp
theorem Reps.take_ {α : Type} {R : α → List Value → Prop} {size : Nat} {ps : List α} {cs : List Value} (h : Reps R size ps cs) (j : Nat) : Reps R size (ps.take j) (cs.take (j * size)) := by
  refine ⟨by rw [List.length_take, List.length_take, h.1, ← Nat.mul_min_mul_right], fun i p hp => ?_⟩
  have hi : i < j := by
    have := (List.getElem?_eq_some_iff.1 hp).1
    rw [List.length_take] at this; omega
  rw [List.getElem?_take, if_pos hi] at hp
  have hle : i * size + size ≤ j * size := by rw [← Nat.succ_mul]; exact Nat.mul_le_mul_right _ hi
  rw [List.drop_take, List.take_take, Nat.min_eq_left (by omega)]
  exact h.2 _ _ hp
theorem Reps.one_ {α : Type} {R : α → List Value → Prop} {size : Nat} {ps : List α} {cs : List Value} (h : Reps R size ps cs) (h1 : ∀ p c, R p c → ∀ u ∈ c, u.oneCell' = true) : ∀ u ∈ cs, u.oneCell' = true := by
  intro u hu
  obtain ⟨q, hq, rfl⟩ := List.getElem_of_mem hu
  have hq' : q < ps.length * size := by rw [← h.1]; exact hq
  have hs : 0 < size := by
    rcases Nat.eq_zero_or_pos size with h0 | h0
    · rw [h0, Nat.mul_zero] at hq'; omega
    · exact h0
  have hd : q / size < ps.length := (Nat.div_lt_iff_lt_mul hs).2 hq'
  have hm : q % size < size := Nat.mod_lt _ hs
  have he : q / size * size + q % size = q := by rw [Nat.mul_comm]; exact Nat.div_add_mod q size
  refine h1 _ _ (h.2 (q / size) ps[q / size] (List.getElem?_eq_getElem hd)) _ (List.mem_iff_getElem?.2 ⟨q % size, ?_⟩)
  rw [List.getElem?_take, if_pos hm, List.getElem?_drop, he]
  exact List.getElem?_eq_getElem hq
end Go.Proofs.Ytcdibodjkdoknaa.Sl
