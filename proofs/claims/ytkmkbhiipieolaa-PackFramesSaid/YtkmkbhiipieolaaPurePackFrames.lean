/- Any payload has the frame that the document says, or none; any bytes begin with a frame, or are told why not. No condition beside the form's own. -/
import Derived.Test.YtkmkbhiipieolaaPAx5
import Derived.Test.YtkmkbhiipieolaaPackLaw
namespace Go.Proofs.Ytkmkbhiipieolaa.Pure
open Go.RowKit Go.Proofs.YtkmkbhiipieolaaW.PrintWords Go.Proofs.YtkmkbhiipieolaaW.PrintLast Go.Proofs.YtkmkbhiipieolaaW.PrintMore Go.Proofs.Ytkmkbhiipieolaa.PA Go.Proofs.Ytkmkbhiipieolaa.Ba
set_option linter.unusedVariables false

theorem PackFrames : gafferlaw01_PackFrames.Pure := by
  intro p s hp hs
  obtain ⟨p, rfl, hp'⟩ := exists_ba p
  obtain ⟨l, rfl, hl⟩ := exists_ba s
  refine Ev.rounds (r := true) ?_
  unfold gafferlaw01_PackFrames.f
  refine Ev.bind (Frame_ev p (by omega)) (Ev.bind (RFrame_ev p (by omega)) (Ev.bind (TakeFrame_ev l (by omega)) (Ev.bind (RTakeFrame_ev l (by omega)) (Ev.bind frames_ev (Ev.pos rfl (Ev.pos rfl (Ev.pos rfl (Ev.pos rfl (Ev.pos rfl ?_)))))))))
  exact Ev.congr (f := fun _ => some true) (fun _ => by simp) (Ev.now _)
end Go.Proofs.Ytkmkbhiipieolaa.Pure
