/- Wherever the power goes while something is saved, it is what was there, or what was being saved. No condition beside the form's own. -/
import Derived.Test.YtpigjmjbfpipnaaPBx13
import Derived.Test.YtpigjmjbfpipnaaHdLaw
import Derived.Test.YtpigjmjbfpipnaaDkLaw
namespace Go.Proofs.Ytpigjmjbfpipnaa.Pure
open Go.RowKit Go.Proofs.YtpigjmjbfpipnaaW.PrintWords Go.Proofs.YtpigjmjbfpipnaaW.PrintLast Go.Proofs.YtpigjmjbfpipnaaW.PrintMore Go.Proofs.Ytpigjmjbfpipnaa.PB Go.Proofs.Ytpigjmjbfpipnaa.Ba Go.Proofs.Ytpigjmjbfpipnaa.Dk Go.Proofs.Ytpigjmjbfpipnaa.Op
set_option linter.unusedVariables false
attribute [local instance 10] Classical.propDecidable

theorem HardOne : gafferlaw04_HardOne.Pure := by
  intro x h fu ks hx hh hfu hks
  have c := came hx
  obtain ⟨ht, ht2⟩ := u64_nat hh.1
  obtain ⟨hm1, hm2⟩ := mx_ge fu
  have hf := hm2 (i64_lt hfu)
  obtain ⟨hk1, hk2⟩ := hks
  have hl := c.len
  have hs0 : ∀ y ∈ x.f0, y.f1.size ≤ 4611686018427387903 := fun y hy => Nat.le_trans (c.size y hy) (by omega)
  refine Ev.rounds (g := fun k => gafferlaw04_HardOne.f k x.f0 x.f1 x.f2 h.f0 h.f1 fu ks) ?_
  unfold gafferlaw04_HardOne.f
  refine Ev.bind lives_ev (Ev.pos rfl (Ev.bind (Crash_ev x.f0 x.f1 x.f2 [] (by omega) hs0 (by simp) (by simp)) ?_))
  -- the disk behind the first crash: right, and all synced
  obtain ⟨l, d, f, w, he, hg, hd, hdry, hs⟩ : ∃ (l : List S71) (d : Bool) (f w : Int), (if Dk.Good x.f0 then (crs [] 0 x.f0, false, (-1 : Int), (0 : Int)) else ([], false, 0, 10)) = (l, d, f, w) ∧ Dk.Good l ∧ d = false ∧ (∀ g ∈ l, g.f2 = (g.f1.size : Int)) ∧ ∀ g ∈ l, g.f1.size ≤ 4611686018427387903 := by
    by_cases hg : Dk.Good x.f0
    · rw [if_pos hg]; exact ⟨_, _, _, _, rfl, crs_good hg [] 0, rfl, crs_all_dry hg [] 0, crs_size hg [] 0 hs0⟩
    · rw [if_neg hg]; exact ⟨_, _, _, _, rfl, good_nil, rfl, by simp, by simp⟩
  rw [he]
  subst hd
  have hl4 := hg.2
  refine Ev.bind (Load_ev l false f (by omega) (fun y hy => Nat.le_trans (hs y hy) (by omega))) ?_
  have hend : ∀ (a b : Int), Ev (fun k => gafferlaw04_HardOne.j0 k fu ks true l false f h.f0 h.f1 a b) true := fun a b => by
    refine Ev.step (fun k => rfl) ?_
    simp only [gafferlaw04_HardOne.j0]
    exact Ev.pos (by simp) (Ev.now _)
  by_cases c0 : (loadR l false).2.2 = 0
  · refine Ev.pos c0 ?_
    rw [hcheck]
    refine Ev.bind (Ev.now _) ?_
    by_cases c1 : h.f1 < 0 ∨ 7 < h.f1
    · rw [if_pos c1]
      exact hend _ _
    · rw [if_neg c1]
      refine Ev.step (fun k => rfl) ?_
      simp only [gafferlaw04_HardOne.j0]
      refine Ev.neg (by simp) (Ev.bind (Save_ev l false (mx fu (-1)) h.f0 h.f1 ht ht2 (by omega) hf hs) ?_)
      have hg2 := save_good hg (t := h.f0) (v := h.f1) (mx fu (-1))
      have hs2 := save_size hg (t := h.f0) (v := h.f1) (mx fu (-1)) hs
      have hw : (saveR l false (mx fu (-1)) h.f0 h.f1).2.2.2 = 0 ∨ (saveR l false (mx fu (-1)) h.f0 h.f1).2.2.2 = 8 ∨ (saveR l false (mx fu (-1)) h.f0 h.f1).2.2.2 = 11 := by
        have h := put_sem (f := mx fu (-1)) (nm := hname) (dt := ba (fileL h.f0.toNat h.f1.toNat)) hg named_h named_t ne_t
        unfold saveR
        rw [if_neg c1]
        rcases h with ⟨h, _⟩ | ⟨_, hU⟩
        · exact .inl h
        · rcases hU.why with ⟨h, _⟩ | ⟨h, _⟩
          · exact .inr (.inl h)
          · exact .inr (.inr h)
      have key := crash_load (t := h.f0) (v := h.f1) hg (fun g hg _ => hdry g hg) ht ht2 (by omega) (by omega) (mx fu (-1)) ks
      generalize saveR l false (mx fu (-1)) h.f0 h.f1 = r at hg2 hs2 hw key ⊢
      obtain ⟨r1, r2, r3, r4⟩ := r
      have hj : ∀ (b : Bool), b = (r4 != 0 && r4 != 8) → Ev (fun k => gafferlaw04_HardOne.j1 k ks r4 b h.f0 h.f1 (loadR l false).1 (loadR l false).2.1 r1 r2 r3) true := by
        intro b hb
        refine Ev.step (fun k => rfl) ?_
        simp only [gafferlaw04_HardOne.j1]
        rcases hw with h0 | h0 | h0
        · have h0' : r4 = 0 := h0
          subst h0'
          obtain rfl : b = false := hb
          have hg3 := crs_good hg2 ks 0
          refine Ev.neg (by simp) (Ev.bind (Crash_ev r1 r2 r3 ks (by have := hg2.2; show r1.length < _; dsimp only at this; omega) hs2 (by omega) (fun k hk => i64_lt (hk2 k hk))) ?_)
          rw [if_pos hg2]
          refine Ev.bind (Load_ev (crs ks 0 r1) false (-1) (by have := hg3.2; dsimp only at this; omega) (fun x hx => Nat.le_trans (crs_size hg2 ks 0 hs2 x hx) (by omega))) ?_
          rcases (key (.inl rfl)).2 with e | ⟨e, _⟩
          · rw [e]
            exact Ev.pos rfl (Ev.pos (by simp) (Ev.now _))
          · exact absurd e (by simp)
        · have h0' : r4 = 8 := h0
          subst h0'
          obtain rfl : b = false := hb
          have hg3 := crs_good hg2 ks 0
          refine Ev.neg (by simp) (Ev.bind (Crash_ev r1 r2 r3 ks (by have := hg2.2; show r1.length < _; dsimp only at this; omega) hs2 (by omega) (fun k hk => i64_lt (hk2 k hk))) ?_)
          rw [if_pos hg2]
          refine Ev.bind (Load_ev (crs ks 0 r1) false (-1) (by have := hg3.2; dsimp only at this; omega) (fun x hx => Nat.le_trans (crs_size hg2 ks 0 hs2 x hx) (by omega))) ?_
          rcases (key (.inr rfl)).2 with e | ⟨_, e⟩
          · rw [e]
            exact Ev.pos rfl (Ev.pos (by simp) (Ev.now _))
          · rw [show loadR (crs ks 0 r1) false = loadR l false from e]
            refine Ev.pos c0 ?_
            by_cases c3 : ((loadR l false).1 == h.f0 && (loadR l false).2.1 == h.f1) = true
            · exact Ev.pos c3 (Ev.now _)
            · exact Ev.neg c3 (Ev.pos (by simp) (Ev.now _))
        · have h0' : r4 = 11 := h0
          subst h0'
          obtain rfl : b = true := hb
          exact Ev.pos (by simp) (Ev.now _)
      by_cases c2 : r4 = 0
      · refine Ev.pos c2 (hj false ?_)
        rw [c2]; rfl
      · refine Ev.neg c2 (hj (r4 != 8) ?_)
        rw [show (r4 != 0) = true from bne_iff_ne.mpr c2, Bool.true_and]
  · exact Ev.neg c0 (hend _ _)
end Go.Proofs.Ytpigjmjbfpipnaa.Pure
