/- Any bytes begin with a number, or are told why not, as the document says. No condition beside the form's own. -/
import Derived.Test.YtkmkbhiipieolaaPAx3
import Derived.Test.YtkmkbhiipieolaaPackLaw
namespace Go.Proofs.Ytkmkbhiipieolaa.Pure
open Go.RowKit Go.Proofs.YtkmkbhiipieolaaW.PrintWords Go.Proofs.YtkmkbhiipieolaaW.PrintLast Go.Proofs.YtkmkbhiipieolaaW.PrintMore Go.Proofs.Ytkmkbhiipieolaa.PA Go.Proofs.Ytkmkbhiipieolaa.Ba
set_option linter.unusedVariables false

theorem PackTakes : gafferlaw01_PackTakes.Pure := by
  intro s hs
  obtain ⟨l, rfl, hl⟩ := exists_ba s
  refine Ev.rounds (r := true) ?_
  unfold gafferlaw01_PackTakes.f
  refine Ev.bind (TakeNumber_ev l (by omega)) (Ev.bind (RTakeNumber_ev l (by omega)) (Ev.bind numbers_ev (Ev.pos rfl (Ev.pos rfl (Ev.pos rfl ?_)))))
  exact Ev.congr (f := fun _ => some true) (fun _ => by simp) (Ev.now _)
end Go.Proofs.Ytkmkbhiipieolaa.Pure
