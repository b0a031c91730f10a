/- Calling otherwise and dropping come to what the document says. No condition beside the form's own. -/
import Derived.Test.YtpdacpopkegecaaPAx11
import Derived.Test.YtpdacpopkegecaaDkRSwap
import Derived.Test.YtpdacpopkegecaaDkRDrop
import Derived.Test.YtpdacpopkegecaaDkLaw
import Derived.Test.YtpdacpopkegecaaDkLives
namespace Go.Proofs.Ytpdacpopkegecaa.Pure
open Go.RowKit Go.Proofs.YtpdacpopkegecaaW.PrintWords Go.Proofs.YtpdacpopkegecaaW.PrintLast Go.Proofs.YtpdacpopkegecaaW.PrintMore Go.Proofs.Ytpdacpopkegecaa.PA Go.Proofs.Ytpdacpopkegecaa.Ba Go.Proofs.Ytpdacpopkegecaa.Dk Go.Proofs.Ytpdacpopkegecaa.Op
set_option linter.unusedVariables false

theorem DiskNames : gafferlaw02_DiskNames.Pure := by
  intro x n tb hx hn ht
  have c := came hx
  obtain ⟨o, ho⟩ := at_of n.toList x.f0
  have h1 := c.len
  have hf := c.fuse
  have e1 := swapO_len ho tb
  have e2 := dropO_len ho
  refine Ev.rounds (g := fun k => gafferlaw02_DiskNames.f k x.f0 x.f1 x.f2 n tb) ?_
  unfold gafferlaw02_DiskNames.f
  rw [Copy_at _ _ _ (by omega)]
  refine Ev.bind_const ?_
  dsimp only
  refine Ev.bind (Swap_ev _ _ _ n tb o ho (by omega) hf) (Ev.bind (RSwap_ev _ _ _ n tb o ho (by omega) hf) ?_)
  refine Ev.bind (Drop_ev _ _ _ n o ho (by omega) hf) (Ev.bind (RDrop_ev _ _ _ n o ho (by omega) hf) ?_)
  refine Ev.bind lives_ev (Ev.pos rfl ?_)
  refine Ev.bind (same_out _ (by have := opR_len (why := (swapO o x.f0 tb).1) (d := x.f1) (f := x.f2) (Nat.le_succ x.f0.length) e1.1 e1.2; exact Nat.le_trans this (by omega))) (Ev.pos rfl (Ev.pos rfl ?_))
  refine Ev.bind (same_out _ (by have := opR_len (why := (dropO o x.f0).1) (d := x.f1) (f := x.f2) (Nat.le_succ x.f0.length) e2.1 e2.2; exact Nat.le_trans this (by omega))) (Ev.pos rfl (Ev.pos rfl ?_))
  exact Ev.bind (Same_ev _ _ _ (by omega)) (Ev.now _)
end Go.Proofs.Ytpdacpopkegecaa.Pure
