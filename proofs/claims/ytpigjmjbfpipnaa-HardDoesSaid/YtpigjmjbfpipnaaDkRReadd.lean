import Derived.Test.YtpigjmjbfpipnaaPDx6
import Derived.Test.YtpigjmjbfpipnaaDkReadd
import Derived.Test.YtpigjmjbfpipnaaDkWithd
namespace Go.Proofs.Ytpigjmjbfpipnaa.Dk
open Go.RowKit YtpigjmjbfpipnaaW.PrintWords YtpigjmjbfpipnaaW.PrintLast YtpigjmjbfpipnaaW.PrintMore Ytpigjmjbfpipnaa.PD Ba Sh Ytpigjmjbfpipnaa.Op
set_option linter.unusedVariables false
attribute [local instance 10] Classical.propDecidable

theorem RRead_ev (l : List S71) (d : Bool) (f : Int) (n : ByteArray) (o) (ho : At n.toList l o) (hl : l.length < 4611686018427387904) : Ev (fun k => gafferref02_Read.f k l d f n) (readR l d o) := by
  unfold gafferref02_Read.f
  have hc := RCheck_ev l d f hl
  by_cases hg : Dk.Good l
  · rw [res_pos hg] at hc
    refine Ev.bind hc (Ev.pos rfl ?_)
    cases d with
    | true =>
      rw [readR_down hg]
      exact Ev.pos rfl (Ev.now _)
    | false =>
      rw [readR_go hg]
      refine Ev.neg (by decide) ?_
      cases ho with
      | bad h => exact absurd hg h
      | none A B _ e ha hb =>
        subst e
        exact Ev.bind (find_none A B n false f hl ha hb) (Ev.pos (by decide) (Ev.now _))
      | some A g B _ e ha hn hb =>
        subst e
        have hlen : (A ++ g :: B).length = A.length + (B.length + 1) := List.length_append
        refine Ev.bind (find_some A g B n false f hl ha hn) (Ev.neg (by omega) (Ev.pos (by omega) (Ev.pos (by omega) ?_)))
        rw [rd_nat, getD_mid]
        exact Ev.now _
  · rw [res_neg hg] at hc
    rw [readR_bad hg]
    exact Ev.bind hc (Ev.neg (by decide) (Ev.now _))
end Go.Proofs.Ytpigjmjbfpipnaa.Dk
