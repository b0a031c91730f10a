/- Who are next to members, these are next to them. No condition beside the form's own. -/
import Derived.Test.YtjlhohdfojkogaaPAx5
import Derived.Test.YtjlhohdfojkogaaQmBase
namespace Go.Proofs.Ytjlhohdfojkogaa.Pure
open Go.RowKit Go.Proofs.YtjlhohdfojkogaaW.PrintWords Go.Proofs.YtjlhohdfojkogaaW.PrintLast Go.Proofs.YtjlhohdfojkogaaW.PrintMore Go.Proofs.Ytjlhohdfojkogaa.PA Go.Proofs.Ytjlhohdfojkogaa.Ba Go.Proofs.Ytjlhohdfojkogaa.Qm
set_option linter.unusedVariables false

theorem QuorumBack : gafferlaw15_QuorumBack.Pure := by
  intro l y h0 h1 h2 h3 h4 h5
  refine Ev.rounds (g := fun k => gafferlaw15_QuorumBack.f k l y) ?_
  unfold gafferlaw15_QuorumBack.f
  refine Ev.bind most_ev (Ev.pos rfl (Ev.bind settled_ev (Ev.pos rfl (Ev.bind (Next_ev l y (by omega) (by omega)) (Ev.bind (Next_ev y l (by omega) (by omega)) ?_)))))
  rw [next_comm, beq_self_eq_true]
  exact Ev.now _
end Go.Proofs.Ytjlhohdfojkogaa.Pure
