/- What a majority has is what the document says. No condition beside the form's own. -/
import Derived.Test.YtjlhohdfojkogaaPAx7
import Derived.Test.YtjlhohdfojkogaaQmSettled
import Derived.Test.YtjlhohdfojkogaaQmRef
import Derived.Test.YtjlhohdfojkogaaOp
namespace Go.Proofs.Ytjlhohdfojkogaa.Pure
open Go.RowKit Go.Proofs.YtjlhohdfojkogaaW.PrintWords Go.Proofs.YtjlhohdfojkogaaW.PrintLast Go.Proofs.YtjlhohdfojkogaaW.PrintMore Go.Proofs.Ytjlhohdfojkogaa.PA Go.Proofs.Ytjlhohdfojkogaa.Ba Go.Proofs.Ytjlhohdfojkogaa.Qm Go.Proofs.Ytjlhohdfojkogaa.Op
set_option linter.unusedVariables false

theorem rmatch_l0 (m : Int) (ps : List S34) (hps : ps.length < 4611686018427387904) : ∀ (R P : List S34), ps = P ++ R → Ev (fun k => gafferref15_match.l0 k m ps (ps.length : Int) (P.length : Int)) (peer R m)
  | [], P, ep => by
    refine Ev.step (fun k => rfl) ?_
    simp only [gafferref15_match.l0]
    exact Ev.neg (by rw [ep, List.append_nil]; omega) (Ev.now _)
  | p :: R, P, ep => by
    have hlen : ps.length = P.length + (R.length + 1) := by rw [ep, List.length_append, List.length_cons]
    have hr : rd_T34 ps (P.length : Int) = p := by rw [ep]; exact rdS_app P p R
    have ih := rmatch_l0 m ps hps R (P ++ [p]) (by rw [ep, appS_snoc])
    rw [List.length_append, List.length_singleton] at ih
    refine Ev.step (fun k => rfl) ?_
    simp only [gafferref15_match.l0]
    rw [hr, up1 (j := P.length) (by omega), peer]
    refine Ev.pos (by omega) (Ev.pos (by omega) (Ev.pos (by omega) ?_))
    by_cases hm : p.f0 = m
    · rw [if_pos hm]; exact Ev.pos hm (Ev.now _)
    · rw [if_neg hm]; exact Ev.neg hm ih
theorem rmatch_ev (m id e : Int) (ps : List S34) (hps : ps.length < 4611686018427387904) : Ev (fun k => gafferref15_match.f k m id e ps) (mtch id e ps m) := by
  unfold gafferref15_match.f mtch
  by_cases h : m = id
  · rw [if_pos h]; exact Ev.pos h (Ev.now _)
  · rw [if_neg h]; exact Ev.neg h (rmatch_l0 m ps hps ps [] rfl)
section
variable (id e : Int) (ps : List S34) (l : List Int) (hps : ps.length < 4611686018427387904) (hl : l.length ≤ 7)
def atl (n : Int) : List Int := l.filter (fun k => decide (n ≤ mtch id e ps k))
include hps hl in
theorem RSettled_l1 (b n : Int) (j : Nat) (r : Int)
    (h : Ev (fun k => (if n > b then ((gafferref15_Most.f k l (atl id e ps l n)).bind fun t => (if t = true then (gafferref15_Settled.l0 k l id e ps n l (l.length : Int) (wrap64 ((j : Int) + 1))) else (gafferref15_Settled.l0 k l id e ps b l (l.length : Int) (wrap64 ((j : Int) + 1))))) else (gafferref15_Settled.l0 k l id e ps b l (l.length : Int) (wrap64 ((j : Int) + 1))))) r) :
    ∀ (R P : List Int), l = P ++ R → Ev (fun k => gafferref15_Settled.l1 k l id e ps b n (P.filter (fun k => decide (n ≤ mtch id e ps k))) l (l.length : Int) (j : Int) l (l.length : Int) (P.length : Int)) r
  | [], P, ep => by
    have ep' : l = P := by rw [ep, List.append_nil]
    refine Ev.step (fun k => rfl) ?_
    simp only [gafferref15_Settled.l1]
    rw [← ep']
    exact Ev.neg (by omega) h
  | m :: R, P, ep => by
    have hlen : l.length = P.length + (R.length + 1) := by rw [ep, List.length_append, List.length_cons]
    have hr : rd l (P.length : Int) = m := by rw [ep]; exact rd_app P m R
    have ih := RSettled_l1 b n j r h R (P ++ [m]) (by rw [ep, app_snoc])
    rw [List.length_append, List.length_singleton, List.filter_append] at ih
    have hf := List.length_filter_le (fun k => decide (n ≤ mtch id e ps k)) P
    refine Ev.step (fun k => rfl) ?_
    simp only [gafferref15_Settled.l1]
    rw [hr, up1 (j := P.length) (by omega)]
    refine Ev.pos (by omega) (Ev.pos (by omega) (Ev.pos (by omega) (Ev.bind (rmatch_ev m id e ps hps) ?_)))
    by_cases hm : n ≤ mtch id e ps m
    · rw [List.filter_cons_of_pos (by simpa using hm), List.filter_nil] at ih
      exact Ev.pos hm (Ev.pos (by omega) ih)
    · rw [List.filter_cons_of_neg (by simpa using hm), List.filter_nil, List.append_nil] at ih
      exact Ev.neg hm ih
theorem has_atl (n : Int) : has l (atl id e ps l n) = cnt (fun x => decide (n ≤ x)) (l.map (mtch id e ps)) := by
  unfold has cnt atl
  rw [List.filter_map, List.length_map]
  congr 1
  refine List.filter_congr (fun m hm => ?_)
  rw [Bool.eq_iff_iff]
  simp [hm]
include hps hl in
theorem RSettled_l0 (hmem : memB 0 l = true) (v : Int) (hmaj : ∀ n, 2 * cnt (fun x => decide (n ≤ x)) (l.map (mtch id e ps)) > l.length ↔ n ≤ v) : ∀ (R P : List Int) (b : Int), l = P ++ R → b ≤ v → (b = v ∨ v ∈ R.map (mtch id e ps)) →
    Ev (fun k => gafferref15_Settled.l0 k l id e ps b l (l.length : Int) (P.length : Int)) v
  | [], P, b, ep, hb, hv => by
    have : b = v := hv.resolve_right (by simp)
    subst this
    refine Ev.step (fun k => rfl) ?_
    simp only [gafferref15_Settled.l0]
    exact Ev.neg (by rw [ep, List.append_nil]; omega) (Ev.now _)
  | m :: R, P, b, ep, hb, hv => by
    have hlen : l.length = P.length + (R.length + 1) := by rw [ep, List.length_append, List.length_cons]
    have hr : rd l (P.length : Int) = m := by rw [ep]; exact rd_app P m R
    have ih := fun b => RSettled_l0 hmem v hmaj R (P ++ [m]) b (by rw [ep, app_snoc])
    rw [List.length_append, List.length_singleton] at ih
    rw [List.map_cons, List.mem_cons] at hv
    refine Ev.step (fun k => rfl) ?_
    simp only [gafferref15_Settled.l0]
    rw [hr]
    refine Ev.pos (by omega) (Ev.pos (by omega) (Ev.pos (by omega) (Ev.bind (rmatch_ev m id e ps hps) ?_)))
    refine RSettled_l1 id e ps l hps hl b (mtch id e ps m) P.length v ?_ l [] rfl
    rw [up1 (by omega)]
    have hmo := RMost_ev l (atl id e ps l (mtch id e ps m)) (by omega) (by have := List.length_filter_le (fun k => decide (mtch id e ps m ≤ mtch id e ps k)) l; unfold atl; omega)
    have hmost : most l (atl id e ps l (mtch id e ps m)) = decide (mtch id e ps m ≤ v) := by
      unfold most
      rw [hmem, has_atl, Bool.true_and, Bool.eq_iff_iff, decide_eq_true_eq, decide_eq_true_eq]
      exact hmaj _
    rw [hmost] at hmo
    by_cases hn : mtch id e ps m > b
    · refine Ev.pos hn (Ev.bind hmo ?_)
      by_cases h2 : mtch id e ps m ≤ v
      · rw [decide_eq_true h2]
        refine Ev.pos rfl (ih _ h2 ?_)
        rcases hv with h | h | h
        · omega
        · exact .inl h.symm
        · exact .inr h
      · rw [decide_eq_false h2]
        refine Ev.neg (by decide) (ih _ hb ?_)
        rcases hv with h | h | h
        · exact .inl h
        · omega
        · exact .inr h
    · refine Ev.neg hn (ih _ hb ?_)
      rcases hv with h | h | h
      · exact .inl h
      · exact .inl (by omega)
      · exact .inr h
end
theorem maj_iff {id e : Int} {ps : List S34} {l s : List Int} (h1 : s.Perm (l.map (mtch id e ps))) (h2 : s.Pairwise (· ≤ ·)) (h0 : 0 < l.length) (n : Int) : 2 * cnt (fun x => decide (n ≤ x)) (l.map (mtch id e ps)) > l.length ↔ n ≤ rd s (mid l.length : Int) := by
  have hlen : s.length = l.length := by rw [h1.length_eq, List.length_map]
  have hm : mid l.length < s.length := by unfold mid; omega
  rw [← cnt_perm h1]
  constructor
  · intro h
    apply Classical.byContradiction
    intro hn
    have := sorted_gt h2 hm (u := n) (by omega)
    unfold mid at this
    omega
  · intro h
    have h3 := sorted_ge h2 hm
    have h4 : cnt (fun x => decide (rd s (mid l.length : Int) ≤ x)) s ≤ cnt (fun x => decide (n ≤ x)) s := by
      unfold cnt
      rw [← List.countP_eq_length_filter, ← List.countP_eq_length_filter]
      exact List.countP_mono_left (fun x hx hd => by rw [decide_eq_true_eq] at hd ⊢; omega)
    unfold mid at h3 h4
    omega
theorem u64_ge {n : Int} (h : okInt .u64 n) : 0 ≤ n := by
  unfold okInt at h
  simp only [Lit.wf, IntKind.min, IntKind.max, IntKind.signed, IntKind.bits, Bool.and_eq_true] at h
  have := h.1
  simpa using this
theorem mtch_ge {id e : Int} {ps : List S34} (he : 0 ≤ e) (hp : ∀ p ∈ ps, 0 ≤ p.f2) (m : Int) : 0 ≤ mtch id e ps m := by
  unfold mtch
  split
  · exact he
  · have : ∀ ps : List S34, (∀ p ∈ ps, 0 ≤ p.f2) → 0 ≤ peer ps m := by
      intro ps
      induction ps with
      | nil => intro _; exact Int.le_refl _
      | cons p r ih =>
        intro h
        rw [peer]
        split
        · exact h p List.mem_cons_self
        · exact ih (fun q hq => h q (List.mem_cons_of_mem _ hq))
    exact this ps hp
theorem rd_mem {s : List Int} {j : Nat} (hj : j < s.length) : rd s (j : Int) ∈ s := by
  unfold rd
  rw [Int.toNat_natCast, List.getD_eq_getElem?_getD, List.getElem?_eq_getElem hj]
  exact List.getElem_mem _
theorem QuorumSettled : gafferlaw15_QuorumSettled.Pure := by
  intro l id e ps hl hid he hps
  have hl1 := hl.1
  have hps1 := hps.1
  refine Ev.rounds (g := fun k => gafferlaw15_QuorumSettled.f k l id e ps) ?_
  unfold gafferlaw15_QuorumSettled.f
  obtain ⟨v, hv, hv0, hv1⟩ := Settled_ev l id e ps (by omega) (by omega)
  refine Ev.bind settled_ev (Ev.pos rfl (Ev.bind hv ?_))
  have hR : Ev (fun k => gafferref15_Settled.f k l id e ps) v := by
    unfold gafferref15_Settled.f
    refine Ev.bind (RMembers_ev l (by omega)) ?_
    by_cases hm : memB 0 l = true
    · refine Ev.pos hm ?_
      obtain ⟨s, h1, h2, h3⟩ := hv1 hm
      subst h3
      have h0 := memB_pos hm
      have hlen : s.length = l.length := by rw [h1.length_eq, List.length_map]
      have hin : rd s (mid l.length : Int) ∈ l.map (mtch id e ps) := h1.mem_iff.1 (rd_mem (by unfold mid; omega))
      have hge : 0 ≤ rd s (mid l.length : Int) := by
        obtain ⟨m, _, hm2⟩ := List.mem_map.1 hin
        rw [← hm2]
        exact mtch_ge (u64_ge he) (fun p hp => u64_ge (hps.2 p hp).2.2) m
      exact RSettled_l0 id e ps l (by omega) (memB_seven hm) hm _ (fun n => maj_iff h1 h2 h0 n) l [] 0 rfl hge (.inr hin)
    · rw [Bool.not_eq_true] at hm
      rw [hv0 hm]
      exact Ev.neg (by rw [hm]; decide) (Ev.now _)
  refine Ev.bind hR ?_
  rw [beq_self_eq_true]
  exact Ev.now _
end Go.Proofs.Ytjlhohdfojkogaa.Pure
