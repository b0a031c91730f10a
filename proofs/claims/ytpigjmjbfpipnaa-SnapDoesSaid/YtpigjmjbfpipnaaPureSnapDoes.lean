import Derived.Test.YtpigjmjbfpipnaaPFx22
import Derived.Test.YtpigjmjbfpipnaaSnReff
import Derived.Test.YtpigjmjbfpipnaaQmReff
namespace Go.Proofs.Ytpigjmjbfpipnaa.Pure
open Go.RowKit YtpigjmjbfpipnaaW.PrintWords YtpigjmjbfpipnaaW.PrintLast YtpigjmjbfpipnaaW.PrintMore Ytpigjmjbfpipnaa.PF Ba Sn Ytpigjmjbfpipnaa.Op
set_option linter.unusedVariables false
attribute [local instance 10] Classical.propDecidable

theorem loadSR_few (l : List S71) (d : Bool) : (loadSR l d).2.2.1.length < 4611686018427387904 := by
  unfold loadSR loadSB
  split
  · split
    · have := decR_len (takeF (Dk.rdR l d sname).1.toList).1; omega
    · decide
  · split <;> (show (0 : Nat) < _; omega)
theorem SnapDoes : gafferlaw05_SnapDoes.Pure := by
  intro x s hx hs
  have c := Dk.came hx
  obtain ⟨i, t, dt, e⟩ := cameS hs
  have hl := c.len
  have hlen : x.f0.length + 4 < 3518437208883 := by
    have := hx.1.1
    omega
  have hs0 : ∀ y ∈ x.f0, y.f1.size ≤ 4611686018427387903 := fun y hy => Nat.le_trans (c.size y hy) (by omega)
  have hS := saveSR_len x.f0 x.f1 x.f2 i t s.f2 dt
  refine Ev.rounds (g := fun k => gafferlaw05_SnapDoes.f k x.f0 x.f1 x.f2 s.f0 s.f1 s.f2 s.f3) ?_
  rw [e.ei, e.et, e.ed]
  unfold gafferlaw05_SnapDoes.f
  rw [Dk.Copy_at x.f0 x.f1 x.f2 (by omega)]
  exact Ev.bind (Ev.now _) (Ev.bind (LoadS_ev x.f0 x.f1 x.f2 (by omega) hs0) (Ev.bind (RLoadS_ev x.f0 x.f1 x.f2 (by omega) hs0) (Ev.bind (SaveS_ev x.f0 x.f1 x.f2 i t s.f2 dt e.hi e.ht e.hm hlen c.fuse hs0) (Ev.bind (RSaveS_ev x.f0 x.f1 x.f2 i t s.f2 dt e.hi e.ht e.hm hlen c.fuse hs0) (Ev.bind lives_ev (Ev.pos rfl (Ev.bind (Same_ev _ _ _ _ (loadSR_few x.f0 x.f1)) (Ev.pos rfl (Ev.pos rfl (Ev.bind (Dk.Same_ev _ _ _ (by omega)) (Ev.pos rfl (Ev.pos rfl (Ev.bind (Dk.Same_ev x.f0 x.f1 x.f2 (by omega)) (Ev.now _))))))))))))))
end Go.Proofs.Ytpigjmjbfpipnaa.Pure
