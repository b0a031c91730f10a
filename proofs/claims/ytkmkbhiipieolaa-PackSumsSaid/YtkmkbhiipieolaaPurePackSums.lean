/- Any bytes have the check that the document says, and nine given bytes have the one that it names. No condition beside the form's own. -/
import Derived.Test.YtkmkbhiipieolaaPAx1
import Derived.Test.YtkmkbhiipieolaaPackLaw
namespace Go.Proofs.Ytkmkbhiipieolaa.Pure
open Go.RowKit Go.Proofs.YtkmkbhiipieolaaW.PrintWords Go.Proofs.YtkmkbhiipieolaaW.PrintLast Go.Proofs.YtkmkbhiipieolaaW.PrintMore Go.Proofs.Ytkmkbhiipieolaa.PA Go.Proofs.Ytkmkbhiipieolaa.Ba
set_option linter.unusedVariables false

theorem PackSums : gafferlaw01_PackSums.Pure := by
  intro s hs
  obtain ⟨l, rfl, hl⟩ := exists_ba s
  refine Ev.rounds (r := true) ?_
  unfold gafferlaw01_PackSums.f gafferlaw01_sums.f
  rw [show (⟨#[49, 50, 51, 52, 53, 54, 55, 56, 57]⟩ : ByteArray) = ba [49, 50, 51, 52, 53, 54, 55, 56, 57] from rfl]
  refine Ev.bind (a := true) (Ev.bind (Sum_ev _ (by decide)) (Ev.congr (f := fun _ => some true) (fun _ => by decide +kernel) (Ev.now _))) (Ev.pos rfl ?_)
  refine Ev.bind (Sum_ev l (by omega)) (Ev.bind (RSum_ev l (by omega)) ?_)
  exact Ev.congr (f := fun _ => some true) (fun _ => by simp) (Ev.now _)
end Go.Proofs.Ytkmkbhiipieolaa.Pure
