/- Who are a majority, and who are next, is what the document says. No condition beside the form's own. -/
import Derived.Test.YtjlhohdfojkogaaPAx5
import Derived.Test.YtjlhohdfojkogaaPAx4
import Derived.Test.YtjlhohdfojkogaaQmRef
namespace Go.Proofs.Ytjlhohdfojkogaa.Pure
open Go.RowKit Go.Proofs.YtjlhohdfojkogaaW.PrintWords Go.Proofs.YtjlhohdfojkogaaW.PrintLast Go.Proofs.YtjlhohdfojkogaaW.PrintMore Go.Proofs.Ytjlhohdfojkogaa.PA Go.Proofs.Ytjlhohdfojkogaa.Ba Go.Proofs.Ytjlhohdfojkogaa.Qm
set_option linter.unusedVariables false

theorem QuorumMost : gafferlaw15_QuorumMost.Pure := by
  intro l y h0 h1 h2 h3 h4 h5
  refine Ev.rounds (g := fun k => gafferlaw15_QuorumMost.f k l y) ?_
  unfold gafferlaw15_QuorumMost.f
  refine Ev.bind most_ev (Ev.pos rfl (Ev.bind settled_ev (Ev.pos rfl (Ev.bind (Most_ev l y (by omega) (by omega)) (Ev.bind (RMost_ev l y (by omega) (by omega)) (Ev.pos (by simp) ?_))))))
  refine Ev.bind (Next_ev l y (by omega) (by omega)) (Ev.bind (RNext_ev l y (by omega) (by omega)) ?_)
  rw [beq_self_eq_true]
  exact Ev.now _
end Go.Proofs.Ytjlhohdfojkogaa.Pure
