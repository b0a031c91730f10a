/- Cutting, in the document. No condition beside those in each row. -/
import Derived.Test.YtpdacpopkegecaaPAx19
import Derived.Test.YtpdacpopkegecaaDkCut
import Derived.Test.YtpdacpopkegecaaDkWith
namespace Go.Proofs.Ytpdacpopkegecaa.Dk
open Go.RowKit Go.Proofs.YtpdacpopkegecaaW.PrintWords Go.Proofs.YtpdacpopkegecaaW.PrintLast Go.Proofs.YtpdacpopkegecaaW.PrintMore Go.Proofs.Ytpdacpopkegecaa.PA Go.Proofs.Ytpdacpopkegecaa.Ba Go.Proofs.Ytpdacpopkegecaa.Sh
set_option linter.unusedVariables false
attribute [local instance 10] Classical.propDecidable

theorem RCut_j3_bad (l : List S35) (d : Bool) (f why i size : Int) (hl : l.length < 3518437208883) (hw : why ≠ 0) : Ev (fun k => gafferref02_Cut.j3 k size why i l d f) (if why = 10 then ([], false, 0, why) else (l, d, f, why)) := by
  refine Ev.step (fun k => rfl) ?_
  simp only [gafferref02_Cut.j3]
  refine Ev.neg hw ?_
  rw [bad_at l d f why hl]
  exact Ev.bind_const (Ev.now _)
theorem RCut_j1_bad (l : List S35) (d : Bool) (f why i size : Int) (hl : l.length < 3518437208883) (hw : why ≠ 0) : Ev (fun k => gafferref02_Cut.j1 k size why i l d f) (if why = 10 then ([], false, 0, why) else (l, d, f, why)) := by
  refine Ev.step (fun k => rfl) ?_
  simp only [gafferref02_Cut.j1]
  refine Ev.neg hw ?_
  refine Ev.step (fun k => rfl) ?_
  simp only [gafferref02_Cut.j2]
  exact Ev.neg (by decide) (RCut_j3_bad l d f why i size hl hw)
theorem RCut_ev (l : List S35) (d : Bool) (f : Int) (n : ByteArray) (size : Int) (o) (ho : At n.toList l o) (hl : l.length + 1 < 3518437208883) (hf : f < 9223372036854775808) :
    Ev (fun k => gafferref02_Cut.f k l d f n size) (outcome l d f (cutO o l size)) := by
  have hl' : l.length < 3518437208883 := by omega
  have hl2 : l.length < 4611686018427387904 := by omega
  unfold gafferref02_Cut.f outcome
  by_cases hg : Good l
  · cases d with
    | true =>
      rw [opR_down hg]
      obtain ⟨r, hr⟩ := find_any l true f n hl2
      refine Ev.bind (ready_down hg f hl2) (Ev.bind hr (Ev.neg (by decide) ?_))
      refine Ev.step (fun k => rfl) ?_
      simp only [gafferref02_Cut.j0]
      exact Ev.neg (by decide) (RCut_j1_bad l true f 8 r size hl' (by decide))
    | false =>
      refine Ev.bind (ready_go hg f hl2) ?_
      cases ho with
      | bad h => exact absurd hg h
      | none A B _ e ha hb =>
        rw [show cutO (some (A, none, B)) l size = (6, l, l) from rfl, opR_why hg (show (6 : Int) ≠ 0 by decide)]
        subst e
        refine Ev.bind (find_none A B n false f hl2 ha hb) (Ev.pos rfl ?_)
        refine Ev.step (fun k => rfl) ?_
        simp only [gafferref02_Cut.j0]
        exact Ev.pos (by decide) (RCut_j1_bad _ false f 6 (-1) size hl' (by decide))
      | some A g B _ e ha hn hb =>
        subst e
        have hlen : (A ++ g :: B).length = A.length + (B.length + 1) := List.length_append
        refine Ev.bind (find_some A g B n false f hl2 ha hn) (Ev.pos rfl ?_)
        refine Ev.step (fun k => rfl) ?_
        simp only [gafferref02_Cut.j0]
        refine Ev.neg (by rw [decide_eq_true_eq]; omega) ?_
        refine Ev.step (fun k => rfl) ?_
        simp only [gafferref02_Cut.j1]
        refine Ev.pos (by simp) ?_
        show Ev _ (opR (if size < 0 ∨ size > (g.f1.size : Int) then 1 else 0) (A ++ g :: B) (A ++ g :: B) (A ++ ⟨g.f0, g.f1.extract 0 size.toNat, mn g.f2 size⟩ :: B) false f)
        have refuse : (size < 0 ∨ size > (g.f1.size : Int)) → Ev (fun k => gafferref02_Cut.j2 k size 0 (A.length : Int) true (A ++ g :: B) false f) (opR (if size < 0 ∨ size > (g.f1.size : Int) then 1 else 0) (A ++ g :: B) (A ++ g :: B) (A ++ ⟨g.f0, g.f1.extract 0 size.toNat, mn g.f2 size⟩ :: B) false f) := by
          intro hs
          rw [if_pos hs, opR_why hg (show (1 : Int) ≠ 0 by decide)]
          refine Ev.step (fun k => rfl) ?_
          simp only [gafferref02_Cut.j2]
          exact Ev.pos (by decide) (RCut_j3_bad _ false f 1 _ size hl' (by decide))
        by_cases h1 : size < 0
        · exact Ev.pos h1 (refuse (.inl h1))
        · refine Ev.neg h1 (Ev.pos (by omega) (Ev.pos (by omega) ?_))
          rw [rd_nat, getD_mid]
          by_cases h2 : size > (g.f1.size : Int)
          · rw [decide_eq_true h2]
            exact refuse (.inr h2)
          · rw [decide_eq_false h2, if_neg (fun h => h.elim h1 h2), opR_go hg]
            refine Ev.step (fun k => rfl) ?_
            simp only [gafferref02_Cut.j2]
            refine Ev.neg (by decide) ?_
            refine Ev.step (fun k => rfl) ?_
            simp only [gafferref02_Cut.j3]
            refine Ev.pos (by simp) ?_
            rw [Copy_at _ _ _ hl']
            refine Ev.bind_const ?_
            rw [burnt_at _ _ _ hf]
            refine Ev.bind_const ?_
            by_cases h0 : f = 0
            · rw [if_pos h0, if_pos h0]
              exact Ev.neg (by simp) (Ev.now _)
            · rw [if_neg h0, if_neg h0]
              dsimp only
              refine Ev.pos rfl (Ev.pos (by omega) (Ev.pos (by omega) ?_))
              rw [rd_nat, getD_mid]
              refine Ev.pos (by omega) (Ev.pos (by omega) ?_)
              have hw : ∀ s : Int, Ev (fun k => gafferref02_with.f k (A ++ g :: B) false (dec f) g.f0 (g.f1.extract 0 size.toNat) s) (A ++ ⟨g.f0, g.f1.extract 0 size.toNat, s⟩ :: B, false, dec f) := by
                intro s
                have hw := with_ev (A ++ g :: B) false (dec f) ⟨g.f0, g.f1.extract 0 size.toNat, s⟩ (by omega)
                rwa [withL_some ⟨g.f0, g.f1.extract 0 size.toNat, s⟩ g A B (fun x hx => by show blt (nm x) (nm g); rw [hn]; exact ha x hx) rfl (fun x hx => by show blt (nm g) (nm x); rw [hn]; exact hb x hx)] at hw
              by_cases h3 : g.f2 > size
              · rw [show mn g.f2 size = size by unfold mn; split <;> omega]
                exact Ev.pos h3 (Ev.bind (hw _) (Ev.now _))
              · rw [show mn g.f2 size = g.f2 by unfold mn; split <;> omega]
                exact Ev.neg h3 (Ev.bind (hw _) (Ev.now _))
  · rw [opR_bad hg]
    obtain ⟨r, hr⟩ := find_any l d f n hl2
    refine Ev.bind (ready_bad hg d f hl2) (Ev.bind hr (Ev.neg (by decide) ?_))
    refine Ev.step (fun k => rfl) ?_
    simp only [gafferref02_Cut.j0]
    exact Ev.neg (by decide) (RCut_j1_bad l d f 10 r size hl' (by decide))
end Go.Proofs.Ytpdacpopkegecaa.Dk
