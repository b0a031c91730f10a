import Derived.Test.YtpigjmjbfpipnaaPDx15
import Derived.Test.YtpigjmjbfpipnaaDkAddd
import Derived.Test.YtpigjmjbfpipnaaDkWithd
namespace Go.Proofs.Ytpigjmjbfpipnaa.Dk
open Go.RowKit YtpigjmjbfpipnaaW.PrintWords YtpigjmjbfpipnaaW.PrintLast YtpigjmjbfpipnaaW.PrintMore Ytpigjmjbfpipnaa.PD Ba Sh
set_option linter.unusedVariables false
attribute [local instance 10] Classical.propDecidable

theorem RAdd_j3_bad (l : List S71) (d : Bool) (f why i : Int) (n data : ByteArray) (hl : l.length < 3518437208883) (hw : why ≠ 0) : Ev (fun k => gafferref02_Add.j3 k n data why i l d f) (if why = 10 then ([], false, 0, why) else (l, d, f, why)) := by
  refine Ev.step (fun k => rfl) ?_
  simp only [gafferref02_Add.j3]
  refine Ev.neg hw ?_
  rw [bad_at l d f why hl]
  exact Ev.bind_const (Ev.now _)
theorem RAdd_j1_bad (l : List S71) (d : Bool) (f why i : Int) (n data : ByteArray) (hl : l.length < 3518437208883) (hw : why ≠ 0) : Ev (fun k => gafferref02_Add.j1 k n data why i l d f) (if why = 10 then ([], false, 0, why) else (l, d, f, why)) := by
  refine Ev.step (fun k => rfl) ?_
  simp only [gafferref02_Add.j1]
  refine Ev.neg hw ?_
  refine Ev.step (fun k => rfl) ?_
  simp only [gafferref02_Add.j2]
  exact Ev.neg (by decide) (RAdd_j3_bad l d f why i n data hl hw)
theorem RAdd_j4 (l l' : List S71) (d : Bool) (f : Int) (data : ByteArray) (a b : ByteArray) (c : Int) (hf : f < 9223372036854775808) (hs : b.size + data.size ≤ 9223372036854775807) (hw : Ev (fun k => gafferref02_with.f k l d f a (b ++ data) c) (l', d, f)) :
    Ev (fun k => gafferref02_Add.j4 k data l d f a b c) (if f = 0 then (l', true, f, 8) else (l', d, dec f, 0)) := by
  refine Ev.step (fun k => rfl) ?_
  simp only [gafferref02_Add.j4]
  refine Ev.pos hs (Ev.bind hw ?_)
  rw [burnt_at _ _ _ hf]
  refine Ev.bind_const ?_
  by_cases h0 : f = 0
  · rw [if_pos h0, if_pos h0]
    exact Ev.neg (by simp) (Ev.now _)
  · rw [if_neg h0, if_neg h0]
    exact Ev.pos rfl (Ev.now _)
theorem RAdd_ev (l : List S71) (d : Bool) (f : Int) (n data : ByteArray) (o) (ho : At n.toList l o) (hl : l.length + 1 < 3518437208883) (hf : f < 9223372036854775808) (hs : ∀ x ∈ l, x.f1.size ≤ 4611686018427387903) (hsd : data.size ≤ 4611686018427387904) :
    Ev (fun k => gafferref02_Add.f k l d f n data) (outcome l d f (addO o l n data)) := by
  have hl' : l.length < 3518437208883 := by omega
  have hl2 : l.length < 4611686018427387904 := by omega
  unfold gafferref02_Add.f outcome
  by_cases hg : Good l
  · cases d with
    | true =>
      rw [opR_down hg]
      obtain ⟨r, hr⟩ := find_any l true f n hl2
      refine Ev.bind (ready_down hg f hl2) (Ev.bind hr (Ev.neg (by decide) ?_))
      refine Ev.step (fun k => rfl) ?_
      simp only [gafferref02_Add.j0]
      exact Ev.neg (by decide) (RAdd_j1_bad l true f 8 r n data hl' (by decide))
    | false =>
      refine Ev.bind (ready_go hg f hl2) ?_
      cases ho with
      | bad h => exact absurd hg h
      | none A B _ e ha hb =>
        subst e
        have hlen : (A ++ B).length = A.length + B.length := List.length_append
        refine Ev.bind (find_none A B n false f hl2 ha hb) (Ev.pos rfl ?_)
        rw [rname_at]
        refine Ev.bind_const ?_
        refine Ev.step (fun k => rfl) ?_
        simp only [gafferref02_Add.j0]
        show Ev _ (opR (if ¬ named n then 5 else if 4096 ≤ (A ++ B).length then 11 else 0) (A ++ B) (A ++ ⟨n, data, 0⟩ :: B) (A ++ ⟨n, data, 0⟩ :: B) false f)
        by_cases hn : ¬ named n
        · rw [if_pos hn, opR_why hg (show (5 : Int) ≠ 0 by decide), decide_eq_false hn]
          exact Ev.pos (by decide) (RAdd_j1_bad _ false f 5 (-1) n data hl' (by decide))
        · rw [if_neg hn, decide_eq_true (Classical.not_not.1 hn)]
          refine Ev.neg (by decide) ?_
          refine Ev.step (fun k => rfl) ?_
          simp only [gafferref02_Add.j1]
          refine Ev.pos (by simp) (Ev.pos (by decide) ?_)
          refine Ev.step (fun k => rfl) ?_
          simp only [gafferref02_Add.j2]
          by_cases h4 : 4096 ≤ (A ++ B).length
          · rw [if_pos h4, opR_why hg (show (11 : Int) ≠ 0 by decide)]
            exact Ev.pos (by rw [decide_eq_true_eq]; omega) (RAdd_j3_bad _ false f 11 (-1) n data hl' (by decide))
          · rw [if_neg h4, opR_go hg]
            refine Ev.neg (by rw [decide_eq_true_eq]; omega) ?_
            refine Ev.step (fun k => rfl) ?_
            simp only [gafferref02_Add.j3]
            refine Ev.pos (by simp) (Ev.neg (by decide) ?_)
            refine RAdd_j4 (A ++ B) _ false f data n (⟨#[]⟩ : ByteArray) 0 hf (by show 0 + data.size ≤ _; omega) ?_
            rw [nil_append_ba]
            have hw := with_ev (A ++ B) false f ⟨n, data, 0⟩ (by omega)
            rwa [withL_none ⟨n, data, 0⟩ A B ha hb] at hw
      | some A g B _ e ha hn hb =>
        subst e
        have hlen : (A ++ g :: B).length = A.length + (B.length + 1) := List.length_append
        refine Ev.bind (find_some A g B n false f hl2 ha hn) (Ev.pos rfl ?_)
        rw [rname_at]
        refine Ev.bind_const ?_
        refine Ev.step (fun k => rfl) ?_
        simp only [gafferref02_Add.j0]
        show Ev _ (opR (if ¬ named n then 5 else 0) (A ++ g :: B) (A ++ ⟨g.f0, g.f1 ++ data, g.f2⟩ :: B) (A ++ ⟨g.f0, g.f1 ++ data, g.f2⟩ :: B) false f)
        by_cases hnn : ¬ named n
        · rw [if_pos hnn, opR_why hg (show (5 : Int) ≠ 0 by decide), decide_eq_false hnn]
          exact Ev.pos (by decide) (RAdd_j1_bad _ false f 5 _ n data hl' (by decide))
        · rw [if_neg hnn, decide_eq_true (Classical.not_not.1 hnn), opR_go hg]
          refine Ev.neg (by decide) ?_
          refine Ev.step (fun k => rfl) ?_
          simp only [gafferref02_Add.j1]
          refine Ev.pos (by simp) (Ev.neg (by omega) ?_)
          refine Ev.step (fun k => rfl) ?_
          simp only [gafferref02_Add.j2]
          refine Ev.neg (by decide) ?_
          refine Ev.step (fun k => rfl) ?_
          simp only [gafferref02_Add.j3]
          refine Ev.pos (by simp) (Ev.pos (by omega) (Ev.pos (by omega) (Ev.pos (by omega) ?_)))
          rw [rd_nat, getD_mid]
          refine RAdd_j4 (A ++ g :: B) _ false f data g.f0 g.f1 g.f2 hf (by have := hs g (by simp); omega) ?_
          have hw := with_ev (A ++ g :: B) false f ⟨g.f0, g.f1 ++ data, g.f2⟩ (by omega)
          rwa [withL_some ⟨g.f0, g.f1 ++ data, g.f2⟩ g A B (fun x hx => by show blt (nm x) (nm g); rw [hn]; exact ha x hx) rfl (fun x hx => by show blt (nm g) (nm x); rw [hn]; exact hb x hx)] at hw
  · rw [opR_bad hg]
    obtain ⟨r, hr⟩ := find_any l d f n hl2
    refine Ev.bind (ready_bad hg d f hl2) (Ev.bind hr (Ev.neg (by decide) ?_))
    refine Ev.step (fun k => rfl) ?_
    simp only [gafferref02_Add.j0]
    exact Ev.neg (by decide) (RAdd_j1_bad l d f 10 r n data hl' (by decide))
end Go.Proofs.Ytpigjmjbfpipnaa.Dk
