import Derived.Test.YtpigjmjbfpipnaaPDx0
import Derived.Test.YtpigjmjbfpipnaaDkAddd
import Derived.Test.YtpigjmjbfpipnaaDkSyncd
import Derived.Test.YtpigjmjbfpipnaaDkSwapd
import Derived.Test.YtpigjmjbfpipnaaDkDropd
import Derived.Test.YtpigjmjbfpipnaaDkReadd
namespace Go.Proofs.Ytpigjmjbfpipnaa.Dk
open Go.RowKit YtpigjmjbfpipnaaW.PrintWords YtpigjmjbfpipnaaW.PrintLast YtpigjmjbfpipnaaW.PrintMore Ytpigjmjbfpipnaa.PD Ba Sh Ytpigjmjbfpipnaa.Op
set_option linter.unusedVariables false
attribute [local instance 10] Classical.propDecidable

theorem mem_mid {A B : List S71} {g x : S71} : x ∈ A ++ g :: B ↔ x = g ∨ x ∈ A ++ B := by
  simp only [List.mem_append, List.mem_cons]
  constructor
  · rintro (h | h | h)
    · exact .inr (.inl h)
    · exact .inl h
    · exact .inr (.inr h)
  · rintro (h | h | h)
    · exact .inr (.inl h)
    · exact .inl h
    · exact .inr (.inr h)
end Go.Proofs.Ytpigjmjbfpipnaa.Dk
