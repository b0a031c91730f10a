/- Any bytes begin with a text, or are told why not, as the document says. No condition beside the form's own. -/
import Derived.Test.YtkmkbhiipieolaaPAx3
import Derived.Test.YtkmkbhiipieolaaPackLaw
namespace Go.Proofs.Ytkmkbhiipieolaa.Pure
open Go.RowKit Go.Proofs.YtkmkbhiipieolaaW.PrintWords Go.Proofs.YtkmkbhiipieolaaW.PrintLast Go.Proofs.YtkmkbhiipieolaaW.PrintMore Go.Proofs.Ytkmkbhiipieolaa.PA Go.Proofs.Ytkmkbhiipieolaa.Ba
set_option linter.unusedVariables false

theorem PackTexts : gafferlaw01_PackTexts.Pure := by
  intro s hs
  obtain ⟨l, rfl, hl⟩ := exists_ba s
  refine Ev.rounds (r := true) ?_
  unfold gafferlaw01_PackTexts.f
  rw [show (⟨#[1, 1, 120, 121]⟩ : ByteArray) = ba [1, 1, 120, 121] from rfl]
  have e : takeT [1, 1, 120, 121] = ([120], [121], 0) := by decide +kernel
  refine Ev.bind (TakeText_ev l (by omega)) (Ev.bind (RTakeText_ev l (by omega)) (Ev.bind (TakeText_ev _ (by decide)) ?_))
  rw [e]
  unfold tup3'
  refine Ev.pos (by rw [ba_list]) (Ev.pos (by rw [ba_list]) (Ev.pos rfl (Ev.pos rfl (Ev.pos rfl ?_))))
  exact Ev.congr (f := fun _ => some true) (fun _ => by simp) (Ev.now _)
end Go.Proofs.Ytkmkbhiipieolaa.Pure
