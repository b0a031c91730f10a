/- What the power took of the second leaves the first. No condition beside the form's own. -/
import Derived.Test.YtpigjmjbfpipnaaPBx13
import Derived.Test.YtpigjmjbfpipnaaHdLaw
import Derived.Test.YtpigjmjbfpipnaaDkLaw
namespace Go.Proofs.Ytpigjmjbfpipnaa.Pure
open Go.RowKit Go.Proofs.YtpigjmjbfpipnaaW.PrintWords Go.Proofs.YtpigjmjbfpipnaaW.PrintLast Go.Proofs.YtpigjmjbfpipnaaW.PrintMore Go.Proofs.Ytpigjmjbfpipnaa.PB Go.Proofs.Ytpigjmjbfpipnaa.Ba Go.Proofs.Ytpigjmjbfpipnaa.Dk Go.Proofs.Ytpigjmjbfpipnaa.Op
set_option linter.unusedVariables false
attribute [local instance 10] Classical.propDecidable

theorem HardTwo : gafferlaw04_HardTwo.Pure := by
  intro a b fu ks ha hb hfu hks
  obtain ⟨ht, ht2⟩ := u64_nat ha.1
  obtain ⟨hu, hu2⟩ := u64_nat hb.1
  obtain ⟨hm1, hm2⟩ := mx_ge fu
  have hf := hm2 (i64_lt hfu)
  obtain ⟨hk1, hk2⟩ := hks
  refine Ev.rounds (g := fun k => gafferlaw04_HardTwo.f k a.f0 a.f1 b.f0 b.f1 fu ks) ?_
  unfold gafferlaw04_HardTwo.f
  refine Ev.bind lives_ev (Ev.pos rfl (Ev.bind (Save_ev [] false (-1) a.f0 a.f1 ht ht2 (by simp) (by omega) (by simp)) ?_))
  by_cases c : a.f1 < 0 ∨ 7 < a.f1
  · have e : saveR [] false (-1) a.f0 a.f1 = ([], false, -1, 1) := by unfold saveR; rw [if_pos c, if_pos good_nil]
    rw [e]
    refine Ev.neg (by simp) (Ev.step (fun k => rfl) ?_)
    simp only [gafferlaw04_HardTwo.j0]
    rw [hcheck, if_pos c]
    exact Ev.pos (by simp) (Ev.bind (Ev.now _) (Ev.now _))
  · rw [save_one good_nil (by simp) ht ht2 (by omega) (by omega) (-1) (by omega)]
    refine Ev.pos rfl ?_
    rw [hcheck]
    refine Ev.bind (Ev.now _) (Ev.step (fun k => rfl) ?_)
    simp only [gafferlaw04_HardTwo.j0]
    by_cases c2 : b.f1 < 0 ∨ 7 < b.f1
    · rw [if_pos c2, hcheck, if_neg c]
      exact Ev.pos (by simp) (Ev.bind (Ev.now _) (Ev.now _))
    · rw [if_neg c2]
      have hg1 := good_one a.f0.toNat a.f1.toNat
      have hs1 := size_one a.f0.toNat a.f1.toNat
      refine Ev.neg (by simp) (Ev.bind (Save_ev _ false (mx fu (-1)) b.f0 b.f1 hu hu2 (by simp) hf hs1) ?_)
      have hg2 := save_good hg1 (t := b.f0) (v := b.f1) (mx fu (-1))
      have hs2 := save_size hg1 (t := b.f0) (v := b.f1) (mx fu (-1)) hs1
      refine Ev.bind (Crash_ev _ _ _ ks (by have := hg2.2; omega) hs2 (by omega) (fun k hk => i64_lt (hk2 k hk))) ?_
      rw [if_pos hg2]
      have hg3 := crs_good hg2 ks 0
      refine Ev.bind (Load_ev _ false (-1) (by have := hg3.2; show (crs ks 0 _).length < _; omega) (fun x hx => Nat.le_trans (crs_size hg2 ks 0 hs2 x hx) (by omega))) ?_
      have key := crash_load (t := b.f0) (v := b.f1) hg1 (fun g hg _ => by rw [List.mem_singleton.1 hg]; rfl) hu hu2 (by omega) (by omega) (mx fu (-1)) ks (by
        have h := put_sem (f := mx fu (-1)) (nm := hname) (dt := ba (fileL b.f0.toNat b.f1.toNat)) hg1 named_h named_t ne_t
        unfold saveR
        rw [if_neg c2]
        rcases h with ⟨h, _⟩ | ⟨_, hU⟩
        · exact .inl h
        · rcases hU.why with ⟨h, _⟩ | ⟨_, h⟩
          · exact .inr h
          · simp at h)
      have hl1 : loadR [theFile a.f0.toNat a.f1.toNat] false = (a.f0, a.f1, 0) := by
        have := load_some hg1 (t := a.f0.toNat) (v := a.f1.toNat) (by omega) (by omega) List.mem_cons_self rfl rfl
        rwa [Int.toNat_of_nonneg ht, Int.toNat_of_nonneg (by omega)] at this
      rcases key.2 with h | ⟨h, h'⟩
      · rw [h]
        exact Ev.pos rfl (Ev.pos (by simp) (Ev.now _))
      · rw [h', hl1]
        refine Ev.pos rfl ?_
        by_cases c3 : (a.f0 == b.f0 && a.f1 == b.f1) = true
        · exact Ev.pos c3 (Ev.now _)
        · refine Ev.neg c3 (Ev.pos (by simp) ?_)
          rw [h]
          exact Ev.now _
end Go.Proofs.Ytpigjmjbfpipnaa.Pure
