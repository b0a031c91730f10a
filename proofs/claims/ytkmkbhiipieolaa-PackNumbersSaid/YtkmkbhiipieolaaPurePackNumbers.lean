/- Any number and any text have the bytes that the document says. No condition beside the form's own. -/
import Derived.Test.YtkmkbhiipieolaaPAx2
import Derived.Test.YtkmkbhiipieolaaPackLaw
namespace Go.Proofs.Ytkmkbhiipieolaa.Pure
open Go.RowKit Go.Proofs.YtkmkbhiipieolaaW.PrintWords Go.Proofs.YtkmkbhiipieolaaW.PrintLast Go.Proofs.YtkmkbhiipieolaaW.PrintMore Go.Proofs.Ytkmkbhiipieolaa.PA Go.Proofs.Ytkmkbhiipieolaa.Ba
set_option linter.unusedVariables false

theorem PackNumbers : gafferlaw01_PackNumbers.Pure := by
  intro n t wn ht
  obtain ⟨n, rfl, hn⟩ := nat_of_u64 wn
  obtain ⟨l, rfl, hl⟩ := exists_ba t
  refine Ev.rounds (r := true) ?_
  unfold gafferlaw01_PackNumbers.f
  refine Ev.bind numbers_ev (Ev.pos rfl (Ev.bind (Number_ev n hn) (Ev.bind (RNumber_ev n hn) (Ev.pos rfl ?_))))
  refine Ev.bind (Text_ev l (by omega)) (Ev.bind (RText_ev l (by omega)) ?_)
  exact Ev.congr (f := fun _ => some true) (fun _ => by simp) (Ev.now _)
end Go.Proofs.Ytkmkbhiipieolaa.Pure
