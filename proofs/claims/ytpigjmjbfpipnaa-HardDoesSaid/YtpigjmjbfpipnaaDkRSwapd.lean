import Derived.Test.YtpigjmjbfpipnaaPDx17
import Derived.Test.YtpigjmjbfpipnaaDkSwapd
import Derived.Test.YtpigjmjbfpipnaaDkWithd
namespace Go.Proofs.Ytpigjmjbfpipnaa.Dk
open Go.RowKit YtpigjmjbfpipnaaW.PrintWords YtpigjmjbfpipnaaW.PrintLast YtpigjmjbfpipnaaW.PrintMore Ytpigjmjbfpipnaa.PD Ba Sh
set_option linter.unusedVariables false
attribute [local instance 10] Classical.propDecidable

theorem RSwap_j5_bad (l : List S71) (d : Bool) (f why i : Int) (n tb : ByteArray) (hl : l.length < 3518437208883) (hw : why ≠ 0) : Ev (fun k => gafferref02_Swap.j5 k n tb why i l d f) (if why = 10 then ([], false, 0, why) else (l, d, f, why)) := by
  refine Ev.step (fun k => rfl) ?_
  simp only [gafferref02_Swap.j5]
  refine Ev.neg hw ?_
  rw [bad_at l d f why hl]
  exact Ev.bind_const (Ev.now _)
theorem RSwap_j3_bad (l : List S71) (d : Bool) (f why i : Int) (n tb : ByteArray) (hl : l.length < 3518437208883) (hw : why ≠ 0) : Ev (fun k => gafferref02_Swap.j3 k n tb why i l d f) (if why = 10 then ([], false, 0, why) else (l, d, f, why)) := by
  refine Ev.step (fun k => rfl) ?_
  simp only [gafferref02_Swap.j3]
  refine Ev.neg hw ?_
  refine Ev.step (fun k => rfl) ?_
  simp only [gafferref02_Swap.j4]
  exact Ev.neg (by decide) (RSwap_j5_bad l d f why i n tb hl hw)
theorem RSwap_j1_bad (l : List S71) (d : Bool) (f why i : Int) (n tb : ByteArray) (hl : l.length < 3518437208883) (hw : why ≠ 0) : Ev (fun k => gafferref02_Swap.j1 k n tb why i l d f) (if why = 10 then ([], false, 0, why) else (l, d, f, why)) := by
  refine Ev.step (fun k => rfl) ?_
  simp only [gafferref02_Swap.j1]
  refine Ev.neg hw ?_
  refine Ev.step (fun k => rfl) ?_
  simp only [gafferref02_Swap.j2]
  exact Ev.neg (by decide) (RSwap_j3_bad l d f why i n tb hl hw)
theorem RSwap_ev (l : List S71) (d : Bool) (f : Int) (n tb : ByteArray) (o) (ho : At n.toList l o) (hl : l.length + 1 < 3518437208883) (hf : f < 9223372036854775808) :
    Ev (fun k => gafferref02_Swap.f k l d f n tb) (outcome l d f (swapO o l tb)) := by
  have hl' : l.length < 3518437208883 := by omega
  have hl2 : l.length < 4611686018427387904 := by omega
  unfold gafferref02_Swap.f outcome
  by_cases hg : Good l
  · cases d with
    | true =>
      rw [opR_down hg]
      obtain ⟨r, hr⟩ := find_any l true f n hl2
      refine Ev.bind (ready_down hg f hl2) (Ev.bind hr (Ev.neg (by decide) ?_))
      refine Ev.step (fun k => rfl) ?_
      simp only [gafferref02_Swap.j0]
      exact Ev.neg (by decide) (RSwap_j1_bad l true f 8 r n tb hl' (by decide))
    | false =>
      refine Ev.bind (ready_go hg f hl2) ?_
      cases ho with
      | bad h => exact absurd hg h
      | none A B _ e ha hb =>
        rw [show swapO (some (A, none, B)) l tb = (6, l, l) from rfl, opR_why hg (show (6 : Int) ≠ 0 by decide)]
        subst e
        refine Ev.bind (find_none A B n false f hl2 ha hb) (Ev.pos rfl ?_)
        refine Ev.step (fun k => rfl) ?_
        simp only [gafferref02_Swap.j0]
        exact Ev.pos (by decide) (RSwap_j1_bad _ false f 6 (-1) n tb hl' (by decide))
      | some A g B _ e ha hn hb =>
        subst e
        have hlen : (A ++ g :: B).length = A.length + (B.length + 1) := List.length_append
        have hAB : (A ++ B).length = A.length + B.length := List.length_append
        refine Ev.bind (find_some A g B n false f hl2 ha hn) (Ev.pos rfl ?_)
        refine Ev.step (fun k => rfl) ?_
        simp only [gafferref02_Swap.j0]
        refine Ev.neg (by rw [decide_eq_true_eq]; omega) ?_
        refine Ev.step (fun k => rfl) ?_
        simp only [gafferref02_Swap.j1]
        refine Ev.pos (by simp) (Ev.pos (by omega) (Ev.pos (by omega) ?_))
        rw [rd_nat, getD_mid]
        show Ev _ (opR (if g.f2 < (g.f1.size : Int) then 9 else if ¬ named tb then 5 else 0) (A ++ g :: B) (A ++ g :: B) (withL ⟨tb, g.f1, g.f2⟩ false (A ++ B)) false f)
        refine Ev.step (fun k => rfl) ?_
        simp only [gafferref02_Swap.j2]
        by_cases hw : g.f2 < (g.f1.size : Int)
        · rw [if_pos hw, opR_why hg (show (9 : Int) ≠ 0 by decide)]
          exact Ev.pos (decide_eq_true hw) (RSwap_j3_bad _ false f 9 _ n tb hl' (by decide))
        · rw [if_neg hw]
          refine Ev.neg (by rw [decide_eq_true_eq]; exact hw) ?_
          refine Ev.step (fun k => rfl) ?_
          simp only [gafferref02_Swap.j3]
          refine Ev.pos (by simp) ?_
          rw [rname_at]
          refine Ev.bind_const ?_
          refine Ev.step (fun k => rfl) ?_
          simp only [gafferref02_Swap.j4]
          by_cases hnn : ¬ named tb
          · rw [if_pos hnn, opR_why hg (show (5 : Int) ≠ 0 by decide), decide_eq_false hnn]
            exact Ev.pos (by decide) (RSwap_j5_bad _ false f 5 _ n tb hl' (by decide))
          · rw [if_neg hnn, opR_go hg, decide_eq_true (Classical.not_not.1 hnn)]
            refine Ev.neg (by decide) ?_
            refine Ev.step (fun k => rfl) ?_
            simp only [gafferref02_Swap.j5]
            refine Ev.pos (by simp) ?_
            rw [Copy_at _ _ _ hl']
            refine Ev.bind_const ?_
            rw [burnt_at _ _ _ hf]
            refine Ev.bind_const ?_
            by_cases h0 : f = 0
            · rw [if_pos h0, if_pos h0]
              exact Ev.neg (by simp) (Ev.now _)
            · rw [if_neg h0, if_neg h0]
              dsimp only
              refine Ev.pos rfl (Ev.pos (by omega) (Ev.pos (by omega) ?_))
              rw [rd_nat, getD_mid]
              exact Ev.bind (without_some A g B false (dec f) n (by omega) ha hn hb) (Ev.bind (with_ev (A ++ B) false (dec f) ⟨tb, g.f1, g.f2⟩ (by omega)) (Ev.now _))
  · rw [opR_bad hg]
    obtain ⟨r, hr⟩ := find_any l d f n hl2
    refine Ev.bind (ready_bad hg d f hl2) (Ev.bind hr (Ev.neg (by decide) ?_))
    refine Ev.step (fun k => rfl) ?_
    simp only [gafferref02_Swap.j0]
    exact Ev.neg (by decide) (RSwap_j1_bad l d f 10 r n tb hl' (by decide))
end Go.Proofs.Ytpigjmjbfpipnaa.Dk
