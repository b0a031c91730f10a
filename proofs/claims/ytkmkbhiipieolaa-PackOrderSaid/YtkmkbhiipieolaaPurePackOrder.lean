/- The bytes of two numbers stand as the numbers do. No condition beside the form's own. -/
import Derived.Test.YtkmkbhiipieolaaPAx2
import Derived.Test.YtkmkbhiipieolaaPackLaw
namespace Go.Proofs.Ytkmkbhiipieolaa.Pure
open Go.RowKit Go.Proofs.YtkmkbhiipieolaaW.PrintWords Go.Proofs.YtkmkbhiipieolaaW.PrintLast Go.Proofs.YtkmkbhiipieolaaW.PrintMore Go.Proofs.Ytkmkbhiipieolaa.PA Go.Proofs.Ytkmkbhiipieolaa.Ba
set_option linter.unusedVariables false

theorem PackOrder : gafferlaw01_PackOrder.Pure := by
  intro a b wa wb
  obtain ⟨a, rfl, ha⟩ := nat_of_u64 wa
  obtain ⟨b, rfl, hb⟩ := nat_of_u64 wb
  refine Ev.rounds (r := true) ?_
  unfold gafferlaw01_PackOrder.f
  refine Ev.bind numbers_ev (Ev.pos rfl (Ev.bind (Number_ev a ha) (Ev.bind (Number_ev b hb) ?_)))
  refine Ev.congr (f := fun _ => some true) (fun _ => ?_) (Ev.now _)
  rw [ba_list, ba_list, order a b ha hb]
  congr 1
  rw [beq_iff_eq, decide_eq_decide]; omega
end Go.Proofs.Ytkmkbhiipieolaa.Pure
