/- What is settled is one of what the members have; where they have more, no less is. No condition beside the form's own. -/
import Derived.Test.YtjlhohdfojkogaaPAx9
import Derived.Test.YtjlhohdfojkogaaPureQuorumSettled
namespace Go.Proofs.Ytjlhohdfojkogaa.Pure
open Go.RowKit Go.Proofs.YtjlhohdfojkogaaW.PrintWords Go.Proofs.YtjlhohdfojkogaaW.PrintLast Go.Proofs.YtjlhohdfojkogaaW.PrintMore Go.Proofs.Ytjlhohdfojkogaa.PA Go.Proofs.Ytjlhohdfojkogaa.Ba Go.Proofs.Ytjlhohdfojkogaa.Qm Go.Proofs.Ytjlhohdfojkogaa.Op
set_option linter.unusedVariables false

def raise (more : Int) (p : S34) : S34 := if p.f2 < more then ⟨p.f0, p.f1, more⟩ else p
theorem raise_f0 (more : Int) (p : S34) : (raise more p).f0 = p.f0 := by unfold raise; split <;> rfl
theorem raise_ge (more : Int) (p : S34) : p.f2 ≤ (raise more p).f2 := by
  unfold raise
  split
  · show p.f2 ≤ more; omega
  · exact Int.le_refl _
theorem peer_raise (more : Int) : ∀ (ps : List S34) (m : Int), peer ps m ≤ peer (ps.map (raise more)) m
  | [], m => Int.le_refl _
  | p :: r, m => by
    rw [List.map_cons, peer, peer, raise_f0]
    by_cases h : p.f0 = m
    · rw [if_pos h, if_pos h]; exact raise_ge more p
    · rw [if_neg h, if_neg h]; exact peer_raise more r m
theorem mtch_raise (id e more : Int) (ps : List S34) (m : Int) : mtch id e ps m ≤ mtch id e (ps.map (raise more)) m := by
  unfold mtch
  split
  · exact Int.le_refl _
  · exact peer_raise more ps m
theorem peer_of : ∀ (ps : List S34) (m : Int), peer ps m = 0 ∨ ∃ p ∈ ps, p.f2 = peer ps m
  | [], m => .inl rfl
  | p :: r, m => by
    rw [peer]
    by_cases h : p.f0 = m
    · rw [if_pos h]; exact .inr ⟨p, List.mem_cons_self, rfl⟩
    · rw [if_neg h]
      rcases peer_of r m with h2 | ⟨q, hq, h2⟩
      · exact .inl h2
      · exact .inr ⟨q, List.mem_cons_of_mem _ hq, h2⟩
theorem setS (A : List S34) (p q : S34) (R : List S34) : (A ++ p :: R).set A.length q = A ++ q :: R := by
  rw [List.set_append_right _ _ (Nat.le_refl _), Nat.sub_self]; rfl
theorem cnt_mono (f g : Int → Int) (n : Int) (h : ∀ m, f m ≤ g m) : ∀ l : List Int, cnt (fun x => decide (n ≤ x)) (l.map f) ≤ cnt (fun x => decide (n ≤ x)) (l.map g)
  | [] => Nat.le_refl _
  | m :: r => by
    rw [List.map_cons, List.map_cons, cnt_cons, cnt_cons]
    have ih := cnt_mono f g n h r
    have := h m
    by_cases h1 : n ≤ f m
    · have h2 : n ≤ g m := by omega
      rw [decide_eq_true h1, decide_eq_true h2]; omega
    · rw [decide_eq_false h1, if_neg (by decide)]
      split <;> omega
theorem Ends_l0 (l : List Int) (id e more v : Int) (n : Nat) (hn : n < 4611686018427387904) : ∀ (R A : List S34) (b : Bool), A.length + R.length = n → (b = true ∨ ∃ p ∈ R, p.f2 = v) →
    Ev (fun k => (quorum_Settled.f k l id e (A ++ R.map (raise more))).bind fun t => (some (decide (t ≥ v)))) true →
    Ev (fun k => gafferlaw15_QuorumEnds.l0 k l id e more v b (A ++ R) (n : Int) (A.length : Int)) true
  | [], A, b, hlen, hb, h => by
    have hb' : b = true := hb.resolve_right (by rintro ⟨p, hp, _⟩; simp at hp)
    refine Ev.step (fun k => rfl) ?_
    simp only [gafferlaw15_QuorumEnds.l0]
    exact Ev.neg (by simp at hlen; omega) (Ev.pos hb' h)
  | p :: R, A, b, hlen, hb, h => by
    rw [List.length_cons] at hlen
    have hl2 : (A ++ p :: R).length = n := by rw [List.length_append, List.length_cons]; omega
    have hr : rd_T34 (A ++ p :: R) (A.length : Int) = p := rdS_app A p R
    have ih := fun b hb => Ends_l0 l id e more v n hn R (A ++ [raise more p]) b (by rw [List.length_append, List.length_singleton]; omega) hb (by rw [List.append_assoc]; exact h)
    rw [List.length_append, List.length_singleton, List.append_assoc] at ih
    have step : ∀ b' : Bool, (b' = true ∨ ∃ q ∈ R, q.f2 = v) → Ev (fun k => (if p.f2 < more then (gafferlaw15_QuorumEnds.l0 k l id e more v b' ((A ++ p :: R).set A.length (⟨p.f0, p.f1, more⟩ : S34)) (n : Int) ((A.length + 1 : Nat) : Int)) else (gafferlaw15_QuorumEnds.l0 k l id e more v b' (A ++ p :: R) (n : Int) ((A.length + 1 : Nat) : Int)))) true := by
      intro b' hb'
      have := ih b' hb'
      unfold raise at this
      by_cases hp : p.f2 < more
      · rw [if_pos hp] at this
        rw [setS]
        exact Ev.pos hp this
      · rw [if_neg hp] at this
        exact Ev.neg hp this
    refine Ev.step (fun k => rfl) ?_
    simp only [gafferlaw15_QuorumEnds.l0]
    rw [hr, Int.toNat_natCast, up1 (j := A.length) (by omega)]
    refine Ev.pos (by omega) ?_
    cases b with
    | true => exact Ev.pos rfl (Ev.pos (by omega) (Ev.pos (by omega) (step true (.inl rfl))))
    | false =>
      refine Ev.neg (by decide) (Ev.pos (by omega) (Ev.pos (by omega) (step (p.f2 == v) ?_)))
      obtain ⟨q, hq, h2⟩ := hb.resolve_left (by decide)
      rcases List.mem_cons.1 hq with rfl | hq
      · exact .inl (by rw [h2]; simp)
      · exact .inr ⟨q, hq, h2⟩
theorem QuorumEnds : gafferlaw15_QuorumEnds.Pure := by
  intro l id e ps more hl hid he hps hmore
  have hl1 := hl.1
  have hps1 := hps.1
  refine Ev.rounds (g := fun k => gafferlaw15_QuorumEnds.f k l id e ps more) ?_
  unfold gafferlaw15_QuorumEnds.f
  obtain ⟨v, hv, hv0, hv1⟩ := Settled_ev l id e ps (by omega) (by omega)
  obtain ⟨v', hv', hv0', hv1'⟩ := Settled_ev l id e (ps.map (raise more)) (by omega) (by rw [List.length_map]; omega)
  have hge : v ≤ v' := by
    by_cases hm : memB 0 l = true
    · obtain ⟨s, h1, h2, h3⟩ := hv1 hm
      obtain ⟨s', h1', h2', h3'⟩ := hv1' hm
      have h0 := memB_pos hm
      rw [h3'] 
      refine (maj_iff h1' h2' h0 v).1 ?_
      have h4 := (maj_iff h1 h2 h0 v).2 (by rw [h3]; exact Int.le_refl _)
      have h5 := cnt_mono (mtch id e ps) (mtch id e (ps.map (raise more))) v (mtch_raise id e more ps) l
      omega
    · rw [Bool.not_eq_true] at hm
      rw [hv0 hm, hv0' hm]; exact Int.le_refl _
  have hin : v = e ∨ v = 0 ∨ ∃ p ∈ ps, p.f2 = v := by
    by_cases hm : memB 0 l = true
    · obtain ⟨s, h1, h2, h3⟩ := hv1 hm
      have h0 := memB_pos hm
      have hlen : s.length = l.length := by rw [h1.length_eq, List.length_map]
      have hin : rd s (mid l.length : Int) ∈ l.map (mtch id e ps) := h1.mem_iff.1 (rd_mem (by unfold mid; omega))
      rw [← h3] at hin
      obtain ⟨m, _, hm2⟩ := List.mem_map.1 hin
      unfold mtch at hm2
      by_cases hmi : m = id
      · rw [if_pos hmi] at hm2; exact .inl hm2.symm
      · rw [if_neg hmi] at hm2
        rcases peer_of ps m with h | ⟨p, hp, h⟩
        · exact .inr (.inl (by omega))
        · exact .inr (.inr ⟨p, hp, by omega⟩)
    · rw [Bool.not_eq_true] at hm
      exact .inr (.inl (hv0 hm))
  have fin : ∀ b : Bool, (b = true ∨ ∃ p ∈ ps, p.f2 = v) → Ev (fun k => gafferlaw15_QuorumEnds.j1 k l id e ps more v b) true := by
    intro b hb
    refine Ev.step (fun k => rfl) ?_
    simp only [gafferlaw15_QuorumEnds.j1]
    refine Ev.bind_const (Ev.pos (by rw [List.length_nil]; omega) (Ev.bind_const ?_))
    rw [List.nil_append]
    refine Ends_l0 l id e more v ps.length (by omega) ps [] b (by simp) hb ?_
    rw [List.nil_append]
    refine Ev.bind hv' ?_
    rw [decide_eq_true (show v' ≥ v from hge)]
    exact Ev.now _
  refine Ev.bind most_ev (Ev.pos rfl (Ev.bind settled_ev (Ev.step (fun k => rfl) ?_)))
  simp only [gafferlaw15_QuorumEnds.j0]
  refine Ev.neg (by decide) (Ev.bind hv ?_)
  by_cases h1 : v = e
  · exact Ev.pos h1 (fin true (.inl rfl))
  · refine Ev.neg h1 (fin (v == 0) ?_)
    rcases hin with h | h | h
    · exact absurd h h1
    · exact .inl (by simpa using h)
    · exact .inr h
end Go.Proofs.Ytjlhohdfojkogaa.Pure
