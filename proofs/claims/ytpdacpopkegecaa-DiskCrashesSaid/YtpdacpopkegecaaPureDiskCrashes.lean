/- A crash comes to what the document says. No condition beside the form's own. -/
import Derived.Test.YtpdacpopkegecaaPAx12
import Derived.Test.YtpdacpopkegecaaDkCrash
import Derived.Test.YtpdacpopkegecaaDkLives
namespace Go.Proofs.Ytpdacpopkegecaa.Pure
open Go.RowKit Go.Proofs.YtpdacpopkegecaaW.PrintWords Go.Proofs.YtpdacpopkegecaaW.PrintLast Go.Proofs.YtpdacpopkegecaaW.PrintMore Go.Proofs.Ytpdacpopkegecaa.PA Go.Proofs.Ytpdacpopkegecaa.Ba Go.Proofs.Ytpdacpopkegecaa.Dk Go.Proofs.Ytpdacpopkegecaa.Op
set_option linter.unusedVariables false
attribute [local instance 10] Classical.propDecidable

theorem RCrash_l0 (ks : List Int) (l : List S35) (hl : l.length < 3518437208883) (hk : ks.length < 4611686018427387904) : ∀ (B P A : List S35), l = P ++ B → A.length = P.length → (∀ x ∈ B, Ok1 x) → (∀ x ∈ B, x.f1.size ≤ 4611686018427387903) → (∀ k ∈ ks, -9223372036854775808 ≤ k ∧ k < 9223372036854775808) →
    Ev (fun k => gafferref02_Crash.l0 k ks l (l.length : Int) (A.length : Int) A false (-1)) (A ++ crs ks A.length B, false, -1, 0)
  | [], P, A, e, h, _, _, _ => by
    have : l.length = A.length := by rw [e, List.append_nil, h]
    refine Ev.step (fun k => rfl) ?_
    simp only [gafferref02_Crash.l0]
    rw [crs, List.append_nil]
    exact Ev.neg (by omega) (Ev.now _)
  | g :: B, P, A, e, h, ho, hs, hks => by
    have hlen : l.length = A.length + (B.length + 1) := by rw [e, List.length_append, List.length_cons, h]
    have og := ho g List.mem_cons_self
    have sg := hs g List.mem_cons_self
    have o1 := og.1
    have o2 := og.2
    have ih : ∀ x : S35, x = cr g (ks.getD A.length 0) → Ev (fun k => gafferref02_Crash.l0 k ks l (l.length : Int) (wrap64 ((A.length : Int) + 1)) (A ++ [x]) false (-1)) (A ++ crs ks A.length (g :: B), false, -1, 0) := by
      intro x hx
      have := RCrash_l0 ks l hl hk B (P ++ [g]) (A ++ [x]) (by rw [e, List.append_assoc]; rfl) (by simp [h]) (fun y hy => ho y (List.mem_cons_of_mem _ hy)) (fun y hy => hs y (List.mem_cons_of_mem _ hy)) hks
      rw [List.append_assoc, List.length_append] at this
      rw [wrap_add1 (by omega), crs, ← hx]
      exact this
    have lg : rd_T35 l (A.length : Int) = g := by rw [rd_nat, e, h]; exact getD_mid P g B
    have hwet : wrap64 ((g.f1.size : Int) - g.f2) = (g.f1.size : Int) - g.f2 := wrap64_id (by omega) (by omega)
    have hf2 : wrap64 g.f2 = g.f2 := wrap64_id (by omega) (by omega)
    refine Ev.step (fun k => rfl) ?_
    simp only [gafferref02_Crash.l0]
    rw [lg, hwet]
    have none_ : ks.getD A.length 0 ≤ 0 → Ev (fun k => gafferref02_Crash.j1 k ks (A.length : Int) ((g.f1.size : Int) - g.f2) l (l.length : Int) (A.length : Int) true A false (-1) g.f0 g.f1 g.f2) (A ++ crs ks A.length (g :: B), false, -1, 0) := by
      intro hn
      refine Ev.step (fun k => rfl) ?_
      simp only [gafferref02_Crash.j1]
      rw [hf2]
      refine Ev.pos trivial (Ev.pos o1 (Ev.pos o2 (Ev.pos (by omega) (ih _ ?_))))
      unfold cr left
      rw [if_pos hn]
    refine Ev.pos (by omega) (Ev.pos (by omega) (Ev.pos (by omega) ?_))
    by_cases hj : (A.length : Int) ≥ (ks.length : Int)
    · exact Ev.pos hj (none_ (by rw [rd_out ks _ hj]; omega))
    · refine Ev.neg hj (Ev.pos (by omega) ?_)
      rw [rd_natI]
      have hki := hks (ks.getD A.length 0) (by rw [List.getD_eq_getElem?_getD, List.getElem?_eq_getElem (by omega)]; exact List.getElem_mem _)
      by_cases hn : ks.getD A.length 0 < 0
      · rw [decide_eq_true hn]
        exact none_ (by omega)
      · rw [decide_eq_false hn]
        refine Ev.step (fun k => rfl) ?_
        simp only [gafferref02_Crash.j1]
        rw [rd_natI]
        refine Ev.neg (by decide) (Ev.pos (by omega) (Ev.pos (by omega) ?_))
        have key : ∀ z, z = left g (ks.getD A.length 0) - g.f2 → Ev (fun k => (if 0 ≤ (wrap64 (g.f2 + z)) then (if (wrap64 (g.f2 + z)) ≤ (g.f1.size : Int) then (if A.length < 3518437208883 then (gafferref02_Crash.l0 k ks l (l.length : Int) (wrap64 ((A.length : Int) + 1)) (A ++ [(⟨g.f0, g.f1.extract 0 ((wrap64 (g.f2 + z)) : Int).toNat, wrap64 (g.f2 + z)⟩ : S35)]) false (-1)) else (none)) else (none)) else (none))) (A ++ crs ks A.length (g :: B), false, -1, 0) := by
          intro z hz
          have hle := left_ge og (ks.getD A.length 0)
          have : wrap64 (g.f2 + z) = left g (ks.getD A.length 0) := by rw [wrap64_id (by omega) (by omega)]; omega
          rw [this]
          exact Ev.pos (by omega) (Ev.pos (by omega) (Ev.pos (by omega) (ih _ rfl)))
        by_cases h2 : ks.getD A.length 0 < (g.f1.size : Int) - g.f2
        · refine Ev.pos h2 (key _ ?_)
          unfold left mn
          split
          · omega
          · rw [if_neg (by omega)]; omega
        · refine Ev.neg h2 (key _ ?_)
          unfold left mn
          split
          · omega
          · split <;> omega
theorem RCrash_ev (l : List S35) (d : Bool) (f : Int) (ks : List Int) (hl : l.length < 3518437208883) (hs : ∀ x ∈ l, x.f1.size ≤ 4611686018427387903) (hk : ks.length < 4611686018427387904) (hb : ∀ k ∈ ks, -9223372036854775808 ≤ k ∧ k < 9223372036854775808) :
    Ev (fun k => gafferref02_Crash.f k l d f ks) (if Dk.Good l then (crs ks 0 l, false, -1, 0) else ([], false, 0, 10)) := by
  unfold gafferref02_Crash.f
  refine Ev.bind (RCheck_ev l d f (by omega)) ?_
  by_cases hg : Dk.Good l
  · rw [res_pos hg, if_pos hg]
    exact Ev.pos rfl (RCrash_l0 ks l hl hk l [] [] rfl rfl hg.ok hs hb)
  · rw [res_neg hg, if_neg hg]
    exact Ev.neg (by decide) (Ev.now _)
theorem DiskCrashes : gafferlaw02_DiskCrashes.Pure := by
  intro x ks hx hk
  have c := came hx
  have h1 := c.len
  have h2 := hk.1
  have hb : ∀ k ∈ ks, -9223372036854775808 ≤ k ∧ k < 9223372036854775808 := fun k h => i64_both (hk.2 k h)
  refine Ev.rounds (g := fun k => gafferlaw02_DiskCrashes.f k x.f0 x.f1 x.f2 ks) ?_
  unfold gafferlaw02_DiskCrashes.f
  rw [Copy_at _ _ _ (by omega)]
  refine Ev.bind_const ?_
  dsimp only
  refine Ev.bind (Crash_ev _ _ _ ks (by omega) (fun y hy => Nat.le_trans (c.size y hy) (by decide)) (by omega) (fun k h => (hb k h).2)) (Ev.bind (RCrash_ev _ _ _ ks (by omega) (fun y hy => Nat.le_trans (c.size y hy) (by decide)) (by omega) hb) (Ev.bind lives_ev (Ev.pos rfl ?_)))
  have e : (if Dk.Good x.f0 then (crs ks 0 x.f0, false, (-1 : Int), (0 : Int)) else ([], false, 0, 10)).1.length ≤ 4611686018427387903 := by split <;> simp only [crs_len, List.length_nil] <;> omega
  exact Ev.bind (same_out _ e) (Ev.pos rfl (Ev.pos rfl (Ev.bind (Same_ev _ _ _ (by omega)) (Ev.now _))))
end Go.Proofs.Ytpdacpopkegecaa.Pure
