import Derived.Test.YtpigjmjbfpipnaaPDx16
import Derived.Test.YtpigjmjbfpipnaaDkSyncd
import Derived.Test.YtpigjmjbfpipnaaDkWithd
namespace Go.Proofs.Ytpigjmjbfpipnaa.Dk
open Go.RowKit YtpigjmjbfpipnaaW.PrintWords YtpigjmjbfpipnaaW.PrintLast YtpigjmjbfpipnaaW.PrintMore Ytpigjmjbfpipnaa.PD Ba Sh
set_option linter.unusedVariables false
attribute [local instance 10] Classical.propDecidable

theorem RSync_j1_bad (l : List S71) (d : Bool) (f why i : Int) (hl : l.length < 3518437208883) (hw : why ≠ 0) : Ev (fun k => gafferref02_Sync.j1 k why i l d f) (if why = 10 then ([], false, 0, why) else (l, d, f, why)) := by
  refine Ev.step (fun k => rfl) ?_
  simp only [gafferref02_Sync.j1]
  refine Ev.neg hw ?_
  rw [bad_at l d f why hl]
  exact Ev.bind_const (Ev.now _)
theorem RSync_ev (l : List S71) (d : Bool) (f : Int) (n : ByteArray) (o) (ho : At n.toList l o) (hl : l.length + 1 < 3518437208883) (hf : f < 9223372036854775808) :
    Ev (fun k => gafferref02_Sync.f k l d f n) (outcome l d f (syncO o l)) := by
  have hl' : l.length < 3518437208883 := by omega
  have hl2 : l.length < 4611686018427387904 := by omega
  unfold gafferref02_Sync.f outcome
  by_cases hg : Good l
  · cases d with
    | true =>
      rw [opR_down hg]
      obtain ⟨r, hr⟩ := find_any l true f n hl2
      refine Ev.bind (ready_down hg f hl2) (Ev.bind hr (Ev.neg (by decide) ?_))
      refine Ev.step (fun k => rfl) ?_
      simp only [gafferref02_Sync.j0]
      exact Ev.neg (by decide) (RSync_j1_bad l true f 8 r hl' (by decide))
    | false =>
      refine Ev.bind (ready_go hg f hl2) ?_
      cases ho with
      | bad h => exact absurd hg h
      | none A B _ e ha hb =>
        rw [show syncO (some (A, none, B)) l = (6, l, l) from rfl, opR_why hg (show (6 : Int) ≠ 0 by decide)]
        subst e
        refine Ev.bind (find_none A B n false f hl2 ha hb) (Ev.pos rfl ?_)
        refine Ev.step (fun k => rfl) ?_
        simp only [gafferref02_Sync.j0]
        exact Ev.pos (by decide) (RSync_j1_bad _ false f 6 (-1) hl' (by decide))
      | some A g B _ e ha hn hb =>
        rw [show syncO (some (A, some g, B)) l = (0, l, A ++ ⟨g.f0, g.f1, (g.f1.size : Int)⟩ :: B) from rfl, opR_go hg]
        subst e
        have hlen : (A ++ g :: B).length = A.length + (B.length + 1) := List.length_append
        refine Ev.bind (find_some A g B n false f hl2 ha hn) (Ev.pos rfl ?_)
        refine Ev.step (fun k => rfl) ?_
        simp only [gafferref02_Sync.j0]
        refine Ev.neg (by rw [decide_eq_true_eq]; omega) ?_
        refine Ev.step (fun k => rfl) ?_
        simp only [gafferref02_Sync.j1]
        refine Ev.pos (by simp) ?_
        rw [Copy_at _ _ _ hl']
        refine Ev.bind_const ?_
        rw [burnt_at _ _ _ hf]
        refine Ev.bind_const ?_
        by_cases h0 : f = 0
        · rw [if_pos h0, if_pos h0]
          exact Ev.neg (by simp) (Ev.now _)
        · rw [if_neg h0, if_neg h0]
          dsimp only
          refine Ev.pos rfl (Ev.pos (by omega) (Ev.pos (by omega) ?_))
          rw [rd_nat, getD_mid]
          have hw := with_ev (A ++ g :: B) false (dec f) ⟨g.f0, g.f1, (g.f1.size : Int)⟩ (by omega)
          rw [withL_some ⟨g.f0, g.f1, (g.f1.size : Int)⟩ g A B (fun x hx => by show blt (nm x) (nm g); rw [hn]; exact ha x hx) rfl (fun x hx => by show blt (nm g) (nm x); rw [hn]; exact hb x hx)] at hw
          exact Ev.bind hw (Ev.now _)
  · rw [opR_bad hg]
    obtain ⟨r, hr⟩ := find_any l d f n hl2
    refine Ev.bind (ready_bad hg d f hl2) (Ev.bind hr (Ev.neg (by decide) ?_))
    refine Ev.step (fun k => rfl) ?_
    simp only [gafferref02_Sync.j0]
    exact Ev.neg (by decide) (RSync_j1_bad l d f 10 r hl' (by decide))
end Go.Proofs.Ytpigjmjbfpipnaa.Dk
