import Derived.Test.YtpigjmjbfpipnaaPDx14
import Derived.Test.YtpigjmjbfpipnaaDkDropd
import Derived.Test.YtpigjmjbfpipnaaDkWithd
namespace Go.Proofs.Ytpigjmjbfpipnaa.Dk
open Go.RowKit YtpigjmjbfpipnaaW.PrintWords YtpigjmjbfpipnaaW.PrintLast YtpigjmjbfpipnaaW.PrintMore Ytpigjmjbfpipnaa.PD Ba Sh
set_option linter.unusedVariables false
attribute [local instance 10] Classical.propDecidable

theorem RDrop_j1_bad (l : List S71) (d : Bool) (f why : Int) (n : ByteArray) (hl : l.length < 3518437208883) (hw : why ≠ 0) : Ev (fun k => gafferref02_Drop.j1 k n why l d f) (if why = 10 then ([], false, 0, why) else (l, d, f, why)) := by
  refine Ev.step (fun k => rfl) ?_
  simp only [gafferref02_Drop.j1]
  refine Ev.neg hw ?_
  rw [bad_at l d f why hl]
  exact Ev.bind_const (Ev.now _)
theorem RDrop_ev (l : List S71) (d : Bool) (f : Int) (n : ByteArray) (o) (ho : At n.toList l o) (hl : l.length + 1 < 3518437208883) (hf : f < 9223372036854775808) :
    Ev (fun k => gafferref02_Drop.f k l d f n) (outcome l d f (dropO o l)) := by
  have hl' : l.length < 3518437208883 := by omega
  have hl2 : l.length < 4611686018427387904 := by omega
  unfold gafferref02_Drop.f outcome
  by_cases hg : Good l
  · cases d with
    | true =>
      rw [opR_down hg]
      refine Ev.bind (ready_down hg f hl2) (Ev.neg (by decide) ?_)
      refine Ev.step (fun k => rfl) ?_
      simp only [gafferref02_Drop.j0]
      exact Ev.neg (by decide) (RDrop_j1_bad l true f 8 n hl' (by decide))
    | false =>
      refine Ev.bind (ready_go hg f hl2) (Ev.pos rfl ?_)
      cases ho with
      | bad h => exact absurd hg h
      | none A B _ e ha hb =>
        rw [show dropO (some (A, none, B)) l = (6, l, l) from rfl, opR_why hg (show (6 : Int) ≠ 0 by decide)]
        subst e
        refine Ev.bind (find_none A B n false f hl2 ha hb) ?_
        refine Ev.step (fun k => rfl) ?_
        simp only [gafferref02_Drop.j0]
        exact Ev.pos (by decide) (RDrop_j1_bad _ false f 6 n hl' (by decide))
      | some A g B _ e ha hn hb =>
        rw [show dropO (some (A, some g, B)) l = (0, l, A ++ B) from rfl, opR_go hg]
        subst e
        have hlen : (A ++ g :: B).length = A.length + (B.length + 1) := List.length_append
        refine Ev.bind (find_some A g B n false f hl2 ha hn) ?_
        refine Ev.step (fun k => rfl) ?_
        simp only [gafferref02_Drop.j0]
        refine Ev.neg (by rw [decide_eq_true_eq]; omega) ?_
        refine Ev.step (fun k => rfl) ?_
        simp only [gafferref02_Drop.j1]
        refine Ev.pos (by simp) ?_
        rw [Copy_at _ _ _ hl']
        refine Ev.bind_const ?_
        rw [burnt_at _ _ _ hf]
        refine Ev.bind_const ?_
        by_cases h0 : f = 0
        · rw [if_pos h0, if_pos h0]
          exact Ev.neg (by simp) (Ev.now _)
        · rw [if_neg h0, if_neg h0]
          dsimp only
          exact Ev.pos rfl (Ev.bind (without_some A g B false (dec f) n (by omega) ha hn hb) (Ev.now _))
  · rw [opR_bad hg]
    refine Ev.bind (ready_bad hg d f hl2) (Ev.neg (by decide) ?_)
    refine Ev.step (fun k => rfl) ?_
    simp only [gafferref02_Drop.j0]
    exact Ev.neg (by decide) (RDrop_j1_bad l d f 10 n hl' (by decide))
end Go.Proofs.Ytpigjmjbfpipnaa.Dk
