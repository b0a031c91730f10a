/- Two majorities of the same members, or of members next to each other, have someone in common. No condition beside the form's own. -/
import Derived.Test.YtjlhohdfojkogaaPAx6
import Derived.Test.YtjlhohdfojkogaaQmBase
namespace Go.Proofs.Ytjlhohdfojkogaa.Pure
open Go.RowKit Go.Proofs.YtjlhohdfojkogaaW.PrintWords Go.Proofs.YtjlhohdfojkogaaW.PrintLast Go.Proofs.YtjlhohdfojkogaaW.PrintMore Go.Proofs.Ytjlhohdfojkogaa.PA Go.Proofs.Ytjlhohdfojkogaa.Ba Go.Proofs.Ytjlhohdfojkogaa.Qm
set_option linter.unusedVariables false

theorem lhas_l0 (x : Int) (l : List Int) (hl : l.length < 4611686018427387904) : ∀ (R P : List Int), l = P ++ R → Ev (fun k => gafferlaw15_has.l0 k x l (l.length : Int) (P.length : Int)) (decide (x ∈ R))
  | [], P, e => by
    refine Ev.step (fun k => rfl) ?_
    simp only [gafferlaw15_has.l0]
    rw [decide_eq_false (show ¬ x ∈ ([] : List Int) by simp)]
    exact Ev.neg (by rw [e, List.append_nil]; omega) (Ev.now _)
  | y :: R, P, e => by
    have hlen : l.length = P.length + (R.length + 1) := by rw [e, List.length_append, List.length_cons]
    have hr : rd l (P.length : Int) = y := by rw [e]; exact rd_app P y R
    have ih := lhas_l0 x l hl R (P ++ [y]) (by rw [e, app_snoc])
    rw [List.length_append, List.length_singleton] at ih
    refine Ev.step (fun k => rfl) ?_
    simp only [gafferlaw15_has.l0]
    rw [hr, up1 (by omega)]
    refine Ev.pos (by omega) (Ev.pos (by omega) (Ev.pos (by omega) ?_))
    by_cases h : y = x
    · rw [decide_eq_true (show x ∈ y :: R by rw [h]; exact List.mem_cons_self)]
      exact Ev.pos h (Ev.now _)
    · rw [show decide (x ∈ y :: R) = decide (x ∈ R) by rw [Bool.eq_iff_iff, decide_eq_true_eq, decide_eq_true_eq]; exact ⟨fun h2 => (List.mem_cons.1 h2).resolve_left (fun e => h e.symm), List.mem_cons_of_mem _⟩]
      exact Ev.neg h ih
theorem lhas_ev (l : List Int) (x : Int) (hl : l.length < 4611686018427387904) : Ev (fun k => gafferlaw15_has.f k l x) (decide (x ∈ l)) := lhas_l0 x l hl l [] rfl
theorem same_l0 (l y : List Int) (hl : l.length < 4611686018427387904) : ∀ (R S P Q : List Int), l = P ++ R → y = Q ++ S → P.length = Q.length → R.length = S.length → Ev (fun k => gafferlaw15_gafferSame.l0 k l y (l.length : Int) (P.length : Int)) (decide (R = S))
  | [], S, P, Q, e1, e2, h, hs => by
    have : S = [] := List.eq_nil_of_length_eq_zero hs.symm
    subst this
    refine Ev.step (fun k => rfl) ?_
    simp only [gafferlaw15_gafferSame.l0]
    rw [show decide True = true from rfl]
    exact Ev.neg (by rw [e1, List.append_nil]; omega) (Ev.now _)
  | a :: R, [], P, Q, e1, e2, h, hs => by simp at hs
  | a :: R, b :: S, P, Q, e1, e2, h, hs => by
    rw [List.length_cons, List.length_cons] at hs
    have hlen : l.length = P.length + (R.length + 1) := by rw [e1, List.length_append, List.length_cons]
    have hlen2 : y.length = Q.length + (S.length + 1) := by rw [e2, List.length_append, List.length_cons]
    have hr : rd l (P.length : Int) = a := by rw [e1]; exact rd_app P a R
    have hr2 : rd y (P.length : Int) = b := by rw [e2, h]; exact rd_app Q b S
    have ih := same_l0 l y hl R S (P ++ [a]) (Q ++ [b]) (by rw [e1, app_snoc]) (by rw [e2, app_snoc]) (by simp [h]) (by omega)
    rw [List.length_append, List.length_singleton] at ih
    refine Ev.step (fun k => rfl) ?_
    simp only [gafferlaw15_gafferSame.l0]
    rw [hr, hr2, up1 (by omega)]
    refine Ev.pos (by omega) (Ev.pos (by omega) (Ev.pos (by omega) (Ev.pos (by omega) ?_)))
    by_cases hab : a = b
    · rw [show decide (a :: R = b :: S) = decide (R = S) by rw [Bool.eq_iff_iff, decide_eq_true_eq, decide_eq_true_eq, hab]; simp]
      exact Ev.pos hab ih
    · rw [decide_eq_false (show ¬ a :: R = b :: S by simp [hab])]
      exact Ev.neg hab (Ev.now _)
theorem same_ev (l y : List Int) (hl : l.length < 4611686018427387904) : Ev (fun k => gafferlaw15_gafferSame.f k l y) (decide (l = y)) := by
  unfold gafferlaw15_gafferSame.f
  by_cases h : l.length = y.length
  · exact Ev.pos (by omega) (same_l0 l y hl l y [] [] rfl rfl rfl h)
  · rw [decide_eq_false (fun e => h (by rw [e]))]
    exact Ev.neg (by omega) (Ev.now _)
theorem nodup_of {l : List Int} (h : memB 0 l = true) : l.Nodup := (memB_rise l 0 h).2.imp (fun hab e => by omega)
theorem share {N T a b : List Int} (hN : N.Nodup) (hT : T.Nodup) (hno : ∀ m ∈ N, m ∈ a → m ∈ b → m ∈ T → False) : has N a + has T b ≤ N.length + gone T N ∧ has N a + has T b ≤ T.length + gone N T := by
  have hnd : (N.filter (fun m => decide (m ∈ a)) ++ T.filter (fun m => decide (m ∈ b))).Nodup := by
    refine List.nodup_append.2 ⟨List.Pairwise.filter _ hN, List.Pairwise.filter _ hT, fun x hx y hy e => ?_⟩
    subst e
    rw [List.mem_filter, decide_eq_true_eq] at hx hy
    exact hno x hx.1 hx.2 hy.2 hy.1
  constructor
  · have := hnd.length_le_of_subset (l₂ := N ++ T.filter (fun m => !decide (m ∈ N))) (fun x hx => by
      rw [List.mem_append, List.mem_filter, List.mem_filter] at hx
      rw [List.mem_append, List.mem_filter]
      by_cases h : x ∈ N
      · exact .inl h
      · exact .inr ⟨(hx.resolve_left (fun q => h q.1)).1, by simpa using h⟩)
    rw [List.length_append, List.length_append] at this
    exact this
  · have := hnd.length_le_of_subset (l₂ := T ++ N.filter (fun m => !decide (m ∈ T))) (fun x hx => by
      rw [List.mem_append, List.mem_filter, List.mem_filter] at hx
      rw [List.mem_append, List.mem_filter]
      by_cases h : x ∈ T
      · exact .inl h
      · exact .inr ⟨(hx.resolve_right (fun q => h q.1)).1, by simpa using h⟩)
    rw [List.length_append, List.length_append] at this
    exact this
theorem gone_self (l : List Int) : gone l l = 0 := by
  unfold gone cnt
  rw [List.filter_eq_nil_iff.2 (fun x hx => by simpa using hx)]
  rfl
theorem Shared_l0 (N T a b : List Int) (hN : N.length < 4611686018427387904) (hT : T.length < 4611686018427387904) (ha : a.length < 4611686018427387904) (hb : b.length < 4611686018427387904) : ∀ (R P : List Int), N = P ++ R → (∃ m ∈ R, m ∈ a ∧ m ∈ b ∧ m ∈ T) → Ev (fun k => gafferlaw15_QuorumShared.l0 k T a b N (N.length : Int) (P.length : Int)) true
  | [], P, e, ⟨m, hm, _⟩ => by simp at hm
  | x :: R, P, e, hex => by
    have hlen : N.length = P.length + (R.length + 1) := by rw [e, List.length_append, List.length_cons]
    have hr : rd N (P.length : Int) = x := by rw [e]; exact rd_app P x R
    have ih := fun h => Shared_l0 N T a b hN hT ha hb R (P ++ [x]) (by rw [e, app_snoc]) h
    rw [List.length_append, List.length_singleton] at ih
    have rest : ¬ (x ∈ a ∧ x ∈ b ∧ x ∈ T) → ∃ m ∈ R, m ∈ a ∧ m ∈ b ∧ m ∈ T := by
      intro h
      obtain ⟨m, hm, h2⟩ := hex
      rcases List.mem_cons.1 hm with rfl | hm
      · exact absurd h2 h
      · exact ⟨m, hm, h2⟩
    refine Ev.step (fun k => rfl) ?_
    simp only [gafferlaw15_QuorumShared.l0]
    rw [hr, up1 (by omega)]
    refine Ev.pos (by omega) (Ev.pos (by omega) (Ev.pos (by omega) (Ev.bind (lhas_ev a x ha) ?_)))
    by_cases h1 : x ∈ a
    · rw [decide_eq_true h1]
      refine Ev.pos rfl (Ev.bind (lhas_ev b x hb) ?_)
      by_cases h2 : x ∈ b
      · rw [decide_eq_true h2]
        refine Ev.pos rfl (Ev.bind (lhas_ev T x hT) ?_)
        by_cases h3 : x ∈ T
        · rw [decide_eq_true h3]
          exact Ev.pos rfl (Ev.now _)
        · rw [decide_eq_false h3]
          exact Ev.neg (by decide) (ih (rest (fun h => h3 h.2.2)))
      · rw [decide_eq_false h2]
        exact Ev.neg (by decide) (ih (rest (fun h => h2 h.2.1)))
    · rw [decide_eq_false h1]
      exact Ev.neg (by decide) (ih (rest (fun h => h1 h.1)))
theorem QuorumShared : gafferlaw15_QuorumShared.Pure := by
  intro N T a b h0 h1 h2 h3 h4 h5 h6 h7 h8 h9 h10 h11
  refine Ev.rounds (g := fun k => gafferlaw15_QuorumShared.f k N T a b) ?_
  unfold gafferlaw15_QuorumShared.f
  refine Ev.bind most_ev (Ev.pos rfl (Ev.bind settled_ev (Ev.step (fun k => rfl) ?_)))
  simp only [gafferlaw15_QuorumShared.j0]
  refine Ev.neg (by decide) (Ev.bind (same_ev N T (by omega)) (Ev.bind (Most_ev N a (by omega) (by omega)) ?_))
  have yes : Ev (fun k => gafferlaw15_QuorumShared.j1 k N T a b true) true := by
    refine Ev.step (fun k => rfl) ?_
    simp only [gafferlaw15_QuorumShared.j1]
    exact Ev.pos trivial (Ev.now _)
  by_cases hm1 : most N a = true
  · refine Ev.pos hm1 (Ev.bind (Most_ev T b (by omega) (by omega)) ?_)
    by_cases hm2 : most T b = true
    · refine Ev.pos hm2 ?_
      unfold most at hm1 hm2
      rw [Bool.and_eq_true, decide_eq_true_eq] at hm1 hm2
      have go : gone N T + gone T N ≤ 1 → Ev (fun k => gafferlaw15_QuorumShared.j1 k N T a b false) true := by
        intro hg
        refine Ev.step (fun k => rfl) ?_
        simp only [gafferlaw15_QuorumShared.j1]
        refine Ev.neg (by decide) (Shared_l0 N T a b (by omega) (by omega) (by omega) (by omega) N [] rfl ?_)
        apply Classical.byContradiction
        intro hno
        have := share (nodup_of hm1.1) (nodup_of hm2.1) (fun m hm ha hb ht => hno ⟨m, hm, ha, hb, ht⟩)
        have h12 := hm1.2
        have h22 := hm2.2
        omega
      by_cases hs : N = T
      · refine Ev.pos (decide_eq_true hs) (go ?_)
        rw [hs, gone_self]; omega
      · refine Ev.neg (by rw [decide_eq_true_eq]; exact hs) (Ev.bind (Next_ev N T (by omega) (by omega)) ?_)
        by_cases hn : next N T = 0
        · rw [hn]
          refine go ?_
          unfold next at hn
          rw [if_pos hm1.1, if_pos hm2.1] at hn
          by_cases hg : gone N T + gone T N = 1
          · omega
          · rw [if_neg hg] at hn; exact absurd hn (by decide)
        · rw [show (next N T != 0) = true by simpa using hn]
          exact yes
    · exact Ev.neg hm2 yes
  · exact Ev.neg hm1 yes
end Go.Proofs.Ytjlhohdfojkogaa.Pure
