/- Each change of a disk comes to what the document says. No condition beside the form's own. -/
import Derived.Test.YtpdacpopkegecaaPAx19
import Derived.Test.YtpdacpopkegecaaDkRAdd
import Derived.Test.YtpdacpopkegecaaDkRSync
import Derived.Test.YtpdacpopkegecaaDkRCut
import Derived.Test.YtpdacpopkegecaaDkLaw
import Derived.Test.YtpdacpopkegecaaDkLives
namespace Go.Proofs.Ytpdacpopkegecaa.Pure
open Go.RowKit Go.Proofs.YtpdacpopkegecaaW.PrintWords Go.Proofs.YtpdacpopkegecaaW.PrintLast Go.Proofs.YtpdacpopkegecaaW.PrintMore Go.Proofs.Ytpdacpopkegecaa.PA Go.Proofs.Ytpdacpopkegecaa.Ba Go.Proofs.Ytpdacpopkegecaa.Dk Go.Proofs.Ytpdacpopkegecaa.Op
set_option linter.unusedVariables false

theorem DiskChanges : gafferlaw02_DiskChanges.Pure := by
  intro x n data size hx hn hd hs
  have c := came hx
  obtain ⟨o, ho⟩ := at_of n.toList x.f0
  have hsz : ∀ y ∈ x.f0, y.f1.size ≤ 4611686018427387903 := fun y hy => by have := c.size y hy; omega
  have hd' : data.size ≤ 4611686018427387904 := by have : data.size ≤ 140737488351232 := hd; omega
  have h1 := c.len
  have hf := c.fuse
  have e1 := syncO_len ho
  have e2 := cutO_len ho size
  have e3 := addO_len ho n data
  refine Ev.rounds (g := fun k => gafferlaw02_DiskChanges.f k x.f0 x.f1 x.f2 n data size) ?_
  unfold gafferlaw02_DiskChanges.f
  rw [Copy_at _ _ _ (by omega)]
  refine Ev.bind_const ?_
  dsimp only
  refine Ev.bind (Add_ev _ _ _ n data o ho (by omega) hf hsz hd') (Ev.bind (RAdd_ev _ _ _ n data o ho (by omega) hf hsz hd') ?_)
  refine Ev.bind (Sync_ev _ _ _ n o ho (by omega) hf) (Ev.bind (RSync_ev _ _ _ n o ho (by omega) hf) ?_)
  refine Ev.bind (Cut_ev _ _ _ n size o ho (by omega) hf) (Ev.bind (RCut_ev _ _ _ n size o ho (by omega) hf) ?_)
  refine Ev.bind lives_ev (Ev.pos rfl ?_)
  refine Ev.bind (same_out _ (by have := opR_len (why := (addO o x.f0 n data).1) (d := x.f1) (f := x.f2) (Nat.le_succ x.f0.length) e3.1 e3.2; exact Nat.le_trans this (by omega))) (Ev.pos rfl (Ev.pos rfl ?_))
  refine Ev.bind (same_out _ (by have := opR_len (why := (syncO o x.f0).1) (d := x.f1) (f := x.f2) (Nat.le_succ x.f0.length) e1.1 e1.2; exact Nat.le_trans this (by omega))) (Ev.pos rfl (Ev.pos rfl ?_))
  refine Ev.bind (same_out _ (by have := opR_len (why := (cutO o x.f0 size).1) (d := x.f1) (f := x.f2) (Nat.le_succ x.f0.length) e2.1 e2.2; exact Nat.le_trans this (by omega))) (Ev.pos rfl (Ev.pos rfl ?_))
  exact Ev.bind (Same_ev _ _ _ (by omega)) (Ev.now _)
end Go.Proofs.Ytpdacpopkegecaa.Pure
