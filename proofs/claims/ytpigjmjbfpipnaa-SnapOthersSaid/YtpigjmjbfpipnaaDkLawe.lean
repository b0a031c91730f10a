/- What the laws ask: bounds of what came in. No condition beside those in each row. -/
import Derived.Test.YtpigjmjbfpipnaaPEx0
import Derived.Test.YtpigjmjbfpipnaaDkListe
import Derived.Test.YtpigjmjbfpipnaaOp
namespace Go.Proofs.Ytpigjmjbfpipnaa.Dk
open Go.RowKit Go.Proofs.YtpigjmjbfpipnaaW.PrintWords Go.Proofs.YtpigjmjbfpipnaaW.PrintLast Go.Proofs.YtpigjmjbfpipnaaW.PrintMore Go.Proofs.Ytpigjmjbfpipnaa.PE Go.Proofs.Ytpigjmjbfpipnaa.Ba Go.Proofs.Ytpigjmjbfpipnaa.Sh Go.Proofs.Ytpigjmjbfpipnaa.Op
set_option linter.unusedVariables false
attribute [local instance 10] Classical.propDecidable

theorem i64_lt {n : Int} (h : okInt .i64 n) : n < 9223372036854775808 := by
  unfold okInt at h
  simp only [Lit.wf, IntKind.min, IntKind.max, IntKind.signed, IntKind.bits, Bool.and_eq_true, decide_eq_true_eq] at h
  have := h.2
  simp at this
  omega
structure Came (x : S24) : Prop where
  len : x.f0.length + 3 < 3518437208883
  fuse : x.f2 < 9223372036854775808
  size : ∀ y ∈ x.f0, y.f1.size ≤ 140737488351232
theorem came {x : S24} (h : ok24 x) : Came x := by
  obtain ⟨⟨h1, h2⟩, _, h3⟩ := h
  exact ⟨by omega, i64_lt h3, fun y hy => (h2 y hy).2.1⟩
end Go.Proofs.Ytpigjmjbfpipnaa.Dk
