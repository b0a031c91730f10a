/- A frame of which one byte is another one is not taken as a payload of the same length. No condition of its own. -/
import Derived.Test.YtcdibodjkdoknaaPMx1
import Derived.Test.YtcdibodjkdoknaaPackLawm
namespace Go.Proofs.Ytcdibodjkdoknaa.Ba
open Go.RowKit Go.Proofs.YtcdibodjkdoknaaW.PrintWords Go.Proofs.YtcdibodjkdoknaaW.PrintLast Go.Proofs.YtcdibodjkdoknaaW.PrintMore Go.Proofs.Ytcdibodjkdoknaa.PM
set_option linter.unusedVariables false

/-- What is taken was there. -/
theorem takeF_inv {l : List UInt8} (h : (takeF l).2.2 = 0) : l = frameL (takeF l).1 ++ (takeF l).2.1 ∧ (takeF l).1.length ≤ 65536 := by
  unfold takeF at h ⊢
  by_cases h4 : l.length < 4
  · rw [if_pos h4] at h; cases h
  · rw [if_neg h4] at h ⊢
    by_cases hn : 65536 < val (l.take 4)
    · rw [if_pos hn] at h; cases h
    · rw [if_neg hn] at h ⊢
      by_cases hl : l.length < val (l.take 4) + 6
      · rw [if_pos hl] at h; cases h
      · rw [if_neg hl] at h ⊢
        by_cases hc : be 2 (crc (l.take 4 ++ (l.drop 6).take (val (l.take 4)))) = (l.drop 4).take 2
        · rw [if_pos hc]
          refine ⟨?_, ?_⟩
          · have := (frame_cut l _ (by omega) rfl (by omega)).2 hc
            show l = frameL ((l.drop 6).take (val (l.take 4))) ++ l.drop (val (l.take 4) + 6)
            rw [this, List.take_append_drop]
          · show ((l.drop 6).take (val (l.take 4))).length ≤ 65536
            rw [List.length_take]; omega
        · rw [if_neg hc] at h; cases h
end Go.Proofs.Ytcdibodjkdoknaa.Ba
