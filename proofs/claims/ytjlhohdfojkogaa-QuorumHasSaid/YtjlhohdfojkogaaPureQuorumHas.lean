/- What is settled some have, who are a majority; more than that none has. No condition beside the form's own. -/
import Derived.Test.YtjlhohdfojkogaaPAx8
import Derived.Test.YtjlhohdfojkogaaPureQuorumSettled
namespace Go.Proofs.Ytjlhohdfojkogaa.Pure
open Go.RowKit Go.Proofs.YtjlhohdfojkogaaW.PrintWords Go.Proofs.YtjlhohdfojkogaaW.PrintLast Go.Proofs.YtjlhohdfojkogaaW.PrintMore Go.Proofs.Ytjlhohdfojkogaa.PA Go.Proofs.Ytjlhohdfojkogaa.Ba Go.Proofs.Ytjlhohdfojkogaa.Qm Go.Proofs.Ytjlhohdfojkogaa.Op
set_option linter.unusedVariables false

theorem has_self {l : List Int} : has l l = l.length := by
  unfold has cnt
  rw [List.filter_eq_self.2 (fun x hx => by simpa using hx)]
section
variable (id e : Int) (ps : List S34) (l : List Int) (v : Int)
theorem Has_l1 (hps : ps.length < 4611686018427387904) (some_ more : List Int) (m : Int) (j : Int) (r : Int → Bool) (b : Bool)
    (h : Ev (fun k => gafferlaw15_QuorumHas.j3 k l id e ps v some_ more m (mtch id e ps m) l (l.length : Int) j) b) : ∀ (n : Nat) (P S : List S34), P.length = n → ps = P ++ S →
    Ev (fun k => gafferlaw15_QuorumHas.l1 k l id e ps v some_ more m (peer S m) ((P.length : Int) - 1) l (l.length : Int) j) b
  | 0, P, S, hn, ep => by
    have : P = [] := List.eq_nil_of_length_eq_zero hn
    subst this
    rw [List.nil_append] at ep
    refine Ev.step (fun k => rfl) ?_
    simp only [gafferlaw15_QuorumHas.l1]
    refine Ev.neg (by simp) ?_
    unfold mtch at h
    by_cases hm : m = id
    · rw [if_pos hm] at h; exact Ev.pos hm h
    · rw [if_neg hm, ep] at h; rw [ep]; exact Ev.neg hm h
  | n + 1, P, S, hn, ep => by
    obtain ⟨Q, q, rfl⟩ : ∃ Q q, P = Q ++ [q] := by
      rcases List.eq_nil_or_concat P with rfl | ⟨Q, q, h⟩
      · simp at hn
      · exact ⟨Q, q, by rw [h, List.concat_eq_append]⟩
    rw [List.length_append, List.length_singleton] at hn
    have e2 : ps = Q ++ q :: S := by rw [ep, List.append_assoc]; rfl
    have hlen : ps.length = Q.length + (S.length + 1) := by rw [e2, List.length_append, List.length_cons]
    have hr : rd_T34 ps (Q.length : Int) = q := by rw [e2]; exact rdS_app Q q S
    have ih := Has_l1 hps some_ more m j r b h n Q (q :: S) (by omega) e2
    have hi : (((Q ++ [q]).length : Nat) : Int) - 1 = (Q.length : Int) := by rw [List.length_append, List.length_singleton]; omega
    rw [hi]
    refine Ev.step (fun k => rfl) ?_
    simp only [gafferlaw15_QuorumHas.l1]
    rw [hr, wrap64_id (n := (Q.length : Int) - 1) (by omega) (by omega)]
    rw [peer] at ih
    refine Ev.pos (by omega) (Ev.pos (by omega) (Ev.pos (by omega) ?_))
    by_cases hm : q.f0 = m
    · rw [if_pos hm] at ih; exact Ev.pos hm ih
    · rw [if_neg hm] at ih; exact Ev.neg hm ih
theorem Has_l0' (hps : ps.length < 4611686018427387904) (hl : l.length ≤ 7) (b : Bool)
    (h : Ev (fun k => (quorum_Most.f k l (l.filter (fun m => decide (v ≤ mtch id e ps m)))).bind fun t => (if t = true then ((quorum_Most.f k l (l.filter (fun m => decide (v < mtch id e ps m)))).bind fun u => (some (!u))) else (some false))) b) : ∀ (R P : List Int), l = P ++ R →
    Ev (fun k => gafferlaw15_QuorumHas.l0 k l id e ps v (P.filter (fun m => decide (v ≤ mtch id e ps m))) (P.filter (fun m => decide (v < mtch id e ps m))) l (l.length : Int) (P.length : Int)) b
  | [], P, ep => by
    have ep' : l = P := by rw [ep, List.append_nil]
    refine Ev.step (fun k => rfl) ?_
    simp only [gafferlaw15_QuorumHas.l0]
    rw [← ep']
    exact Ev.neg (by omega) h
  | m :: R, P, ep => by
    have hlen : l.length = P.length + (R.length + 1) := by rw [ep, List.length_append, List.length_cons]
    have hr : rd l (P.length : Int) = m := by rw [ep]; exact rd_app P m R
    have ih := Has_l0' hps hl b h R (P ++ [m]) (by rw [ep, app_snoc])
    rw [List.length_append, List.length_singleton, List.filter_append, List.filter_append] at ih
    have hf1 := List.length_filter_le (fun m => decide (v ≤ mtch id e ps m)) P
    have hf2 := List.length_filter_le (fun m => decide (v < mtch id e ps m)) P
    refine Ev.step (fun k => rfl) ?_
    simp only [gafferlaw15_QuorumHas.l0]
    rw [hr, wrap64_id (n := (ps.length : Int) - 1) (by omega) (by omega)]
    refine Ev.pos (by omega) (Ev.pos (by omega) (Ev.pos (by omega) ?_))
    refine Has_l1 id e ps l v hps _ _ m _ (fun _ => b) b ?_ ps.length ps [] rfl (by simp)
    refine Ev.step (fun k => rfl) ?_
    simp only [gafferlaw15_QuorumHas.j3]
    rw [up1 (j := P.length) (by omega)]
    by_cases h1 : v ≤ mtch id e ps m
    · rw [List.filter_cons_of_pos (by simpa using h1), List.filter_nil] at ih
      refine Ev.pos h1 (Ev.pos (by omega) (Ev.bind_const ?_))
      by_cases h2 : v < mtch id e ps m
      · rw [List.filter_cons_of_pos (by simpa using h2), List.filter_nil] at ih
        exact Ev.pos h2 (Ev.pos (by omega) ih)
      · rw [List.filter_cons_of_neg (by simpa using h2), List.filter_nil, List.append_nil] at ih
        exact Ev.neg h2 ih
    · rw [List.filter_cons_of_neg (by simpa using h1), List.filter_nil, List.append_nil] at ih
      have h2 : ¬ v < mtch id e ps m := by omega
      rw [List.filter_cons_of_neg (by simpa using h2), List.filter_nil, List.append_nil] at ih
      exact Ev.neg h1 (Ev.neg h2 ih)
end
theorem QuorumHas : gafferlaw15_QuorumHas.Pure := by
  intro l id e ps hl hid he hps
  have hl1 := hl.1
  have hps1 := hps.1
  refine Ev.rounds (g := fun k => gafferlaw15_QuorumHas.f k l id e ps) ?_
  unfold gafferlaw15_QuorumHas.f
  obtain ⟨v, hv, hv0, hv1⟩ := Settled_ev l id e ps (by omega) (by omega)
  refine Ev.bind most_ev (Ev.pos rfl (Ev.bind settled_ev (Ev.step (fun k => rfl) ?_)))
  simp only [gafferlaw15_QuorumHas.j0]
  refine Ev.neg (by decide) (Ev.bind hv (Ev.bind (Most_ev l l (by omega) (by omega)) ?_))
  by_cases hm : memB 0 l = true
  · have h0 := memB_pos hm
    have h7 := memB_seven hm
    have hmost : most l l = true := by
      unfold most
      rw [hm, has_self, Bool.true_and, decide_eq_true_eq]; omega
    refine Ev.pos hmost ?_
    obtain ⟨s, h1, h2, h3⟩ := hv1 hm
    have key : ∀ n, most l (atl id e ps l n) = decide (n ≤ v) := by
      intro n
      unfold most
      rw [hm, has_atl, Bool.true_and, Bool.eq_iff_iff, decide_eq_true_eq, decide_eq_true_eq, h3]
      exact maj_iff h1 h2 h0 n
    have e1 : l.filter (fun m => decide (v < mtch id e ps m)) = atl id e ps l (v + 1) := by
      unfold atl
      refine List.filter_congr (fun m _ => ?_)
      rw [Bool.eq_iff_iff, decide_eq_true_eq, decide_eq_true_eq]; omega
    refine Has_l0' id e ps l v (by omega) h7 true ?_ l [] rfl
    have hf : ∀ n, (atl id e ps l n).length ≤ l.length := fun n => List.length_filter_le _ _
    have hM1 := Most_ev l (atl id e ps l v) (by omega) (by have := hf v; omega)
    have hM2 := Most_ev l (atl id e ps l (v + 1)) (by omega) (by have := hf (v + 1); omega)
    rw [key, decide_eq_true (Int.le_refl v)] at hM1
    rw [key, decide_eq_false (by omega)] at hM2
    rw [e1]
    exact Ev.bind hM1 (Ev.pos rfl (Ev.bind hM2 (Ev.now _)))
  · rw [Bool.not_eq_true] at hm
    have hmost : most l l = false := by unfold most; rw [hm]; rfl
    rw [hmost, hv0 hm]
    exact Ev.neg (by decide) (Ev.now _)
end Go.Proofs.Ytjlhohdfojkogaa.Pure
