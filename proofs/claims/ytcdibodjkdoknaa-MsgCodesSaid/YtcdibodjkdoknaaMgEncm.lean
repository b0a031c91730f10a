import Derived.Test.YtcdibodjkdoknaaPMx6
import Derived.Test.YtcdibodjkdoknaaMgCutm
namespace Go.Proofs.Ytcdibodjkdoknaa.Mg
open Go.RowKit YtcdibodjkdoknaaW.PrintWords YtcdibodjkdoknaaW.PrintLast YtcdibodjkdoknaaW.PrintMore Ytcdibodjkdoknaa.PM Ba Ytcdibodjkdoknaa.Op
set_option linter.unusedVariables false
set_option linter.unusedSimpArgs false

theorem u64_of {n : Int} (h : okInt .u64 n) : U64 n := by
  obtain ⟨m, rfl, hm⟩ := nat_of_u64 h
  exact ⟨by omega, by omega⟩
theorem u8_of {n : Int} (h : okInt .u8 n) : 0 ≤ n ∧ n < 256 := by
  simp only [okInt, Lit.wf, IntKind.min, IntKind.max, IntKind.signed, IntKind.bits, Bool.and_eq_true] at h
  simp at h
  omega
end Go.Proofs.Ytcdibodjkdoknaa.Mg
