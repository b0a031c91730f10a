import Derived.Test.YtpigjmjbfpipnaaPDx21
import Derived.Test.YtpigjmjbfpipnaaHdRefd
import Derived.Test.YtpigjmjbfpipnaaHdLivesd
import Derived.Test.YtpigjmjbfpipnaaDkLawd
namespace Go.Proofs.Ytpigjmjbfpipnaa.Pure
open Go.RowKit YtpigjmjbfpipnaaW.PrintWords YtpigjmjbfpipnaaW.PrintLast YtpigjmjbfpipnaaW.PrintMore Ytpigjmjbfpipnaa.PD Ba Dk Ytpigjmjbfpipnaa.Op
set_option linter.unusedVariables false
attribute [local instance 10] Classical.propDecidable

theorem saveR_len (l : List S71) (d : Bool) (f t v : Int) : (saveR l d f t v).1.length ≤ l.length + 4 := by
  unfold saveR
  split
  · split
    · exact Nat.le_add_right _ _
    · exact Nat.zero_le _
  · exact putR_len _ _ _ _ _
theorem HardDoes : gafferlaw04_HardDoes.Pure := by
  intro x h hx hh
  have c := came hx
  obtain ⟨m, hm, hm2⟩ := nat_of_u64 hh.1
  have ht : 0 ≤ h.f0 := by omega
  have ht2 : h.f0 < 18446744073709551616 := by omega
  have hl := c.len
  have hlen : x.f0.length + 4 < 3518437208883 := by
    have := hx.1.1
    omega
  have hs0 : ∀ y ∈ x.f0, y.f1.size ≤ 4611686018427387903 := fun y hy => Nat.le_trans (c.size y hy) (by omega)
  refine Ev.rounds (g := fun k => gafferlaw04_HardDoes.f k x.f0 x.f1 x.f2 h.f0 h.f1) ?_
  unfold gafferlaw04_HardDoes.f
  rw [Copy_at x.f0 x.f1 x.f2 (by omega)]
  have hS := saveR_len x.f0 x.f1 x.f2 h.f0 h.f1
  refine Ev.bind (Ev.now _) (Ev.bind (Load_ev x.f0 x.f1 x.f2 (by omega) (fun y hy => Nat.le_trans (hs0 y hy) (by omega))) (Ev.bind (RLoad_ev x.f0 x.f1 x.f2 (by omega) (fun y hy => Nat.le_trans (hs0 y hy) (by omega))) (Ev.bind (Save_ev x.f0 x.f1 x.f2 h.f0 h.f1 ht ht2 hlen c.fuse hs0) (Ev.bind (RSave_ev x.f0 x.f1 x.f2 h.f0 h.f1 ht ht2 hlen c.fuse hs0) (Ev.bind lives_ev (Ev.pos rfl (Ev.pos (by simp) (Ev.pos rfl (Ev.bind (Same_ev _ _ _ (by omega)) (Ev.pos rfl (Ev.pos rfl ?_)))))))))))
  rw [hcheck, rcheck]
  exact Ev.bind (Ev.now _) (Ev.bind (Ev.now _) (Ev.pos rfl (Ev.bind (Same_ev x.f0 x.f1 x.f2 (by omega)) (Ev.now _))))
end Go.Proofs.Ytpigjmjbfpipnaa.Pure
