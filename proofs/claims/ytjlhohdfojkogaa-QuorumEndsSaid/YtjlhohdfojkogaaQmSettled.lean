/- What a majority has, in the program: the middle one of what the members have, in order. No condition beside those in each row. -/
import Derived.Test.YtjlhohdfojkogaaPAx3
import Derived.Test.YtjlhohdfojkogaaQmSort
namespace Go.Proofs.Ytjlhohdfojkogaa.Qm
open Go.RowKit Go.Proofs.YtjlhohdfojkogaaW.PrintWords Go.Proofs.YtjlhohdfojkogaaW.PrintLast Go.Proofs.YtjlhohdfojkogaaW.PrintMore Go.Proofs.Ytjlhohdfojkogaa.PA Go.Proofs.Ytjlhohdfojkogaa.Ba Go.Proofs.Ytjlhohdfojkogaa.Sh
set_option linter.unusedVariables false

/-- What the first of that number has; 0: there is none. -/
def peer : List S34 → Int → Int
  | [], _ => 0
  | p :: r, m => if p.f0 = m then p.f2 else peer r m
def mtch (id e : Int) (ps : List S34) (m : Int) : Int := if m = id then e else peer ps m
theorem rdS_app (P : List S34) (x : S34) (R : List S34) : rd_T34 (P ++ x :: R) (P.length : Int) = x := by
  unfold rd_T34
  rw [Int.toNat_natCast, List.getD_eq_getElem?_getD, List.getElem?_append_right (Nat.le_refl _), Nat.sub_self]
  rfl
theorem appS_snoc (P : List S34) (x : S34) (R : List S34) : P ++ x :: R = (P ++ [x]) ++ R := by rw [List.append_assoc]; rfl
theorem Settled_l1 (id e : Int) (ps : List S34) (acc : List Int) (m : Int) (l : List Int) (j : Nat) (r : Int) (hps : ps.length < 4611686018427387904) (hacc : acc.length < 17592186044416) : ∀ (R P : List S34), ps = P ++ R →
    Ev (fun k => quorum_Settled.l0 k id e ps (acc ++ [peer R m]) l (l.length : Int) (wrap64 ((j : Int) + 1))) r →
    Ev (fun k => quorum_Settled.l1 k id e ps acc m l (l.length : Int) (j : Int) ps (ps.length : Int) (P.length : Int)) r
  | [], P, ep, h => by
    refine Ev.step (fun k => rfl) ?_
    simp only [quorum_Settled.l1]
    exact Ev.neg (by rw [ep, List.append_nil]; omega) (Ev.pos hacc h)
  | p :: R, P, ep, h => by
    have hlen : ps.length = P.length + (R.length + 1) := by rw [ep, List.length_append, List.length_cons]
    have hr : rd_T34 ps (P.length : Int) = p := by rw [ep]; exact rdS_app P p R
    have ih := fun h => Settled_l1 id e ps acc m l j r hps hacc R (P ++ [p]) (by rw [ep, appS_snoc]) h
    rw [List.length_append, List.length_singleton] at ih
    refine Ev.step (fun k => rfl) ?_
    simp only [quorum_Settled.l1]
    rw [hr, up1 (j := P.length) (by omega)]
    rw [peer] at h
    refine Ev.pos (by omega) (Ev.pos (by omega) (Ev.pos (by omega) ?_))
    by_cases hm : p.f0 = m
    · rw [if_pos hm] at h
      exact Ev.pos hm (Ev.pos hacc h)
    · rw [if_neg hm] at h
      exact Ev.neg hm (ih h)
/-- The middle place. -/
def mid (n : Nat) : Nat := (n - 1) / 2
theorem mid_at (n : Nat) (h : 0 < n) (hb : n < 4611686018427387904) : wrap64 (Int.tdiv (wrap64 ((n : Int) - 1)) 2) = (mid n : Int) := by
  rw [wrap64_id (n := (n : Int) - 1) (by omega) (by omega), show ((n : Int) - 1) = ((n - 1 : Nat) : Int) by omega]
  have : Int.tdiv ((n - 1 : Nat) : Int) 2 = (((n - 1) / 2 : Nat) : Int) := rfl
  rw [this, wrap64_id (by omega) (by omega)]
  rfl
theorem Settled_l0 (id e : Int) (ps : List S34) (l : List Int) (hps : ps.length < 4611686018427387904) (hl : l.length ≤ 7) (h0 : 0 < l.length) : ∀ (R P : List Int), l = P ++ R → ∃ s : List Int, s.Perm (l.map (mtch id e ps)) ∧ s.Pairwise (· ≤ ·) ∧
    Ev (fun k => quorum_Settled.l0 k id e ps (P.map (mtch id e ps)) l (l.length : Int) (P.length : Int)) (rd s (mid l.length : Int))
  | [], P, ep => by
    rw [List.append_nil] at ep
    obtain ⟨s, h1, h2, h3⟩ := Sort_ev (P.map (mtch id e ps)) (by rw [List.length_map, ← ep]; omega)
    refine ⟨s, by rw [ep]; exact h1, h2, Ev.step (fun k => rfl) ?_⟩
    simp only [quorum_Settled.l0]
    rw [List.length_map, ← ep, mid_at l.length h0 (by omega)]
    rw [← ep] at h3
    refine Ev.neg (by omega) (Ev.bind h3 (Ev.pos (by omega) (Ev.pos ?_ (Ev.now _))))
    unfold mid
    omega
  | m :: R, P, ep => by
    have hlen : l.length = P.length + (R.length + 1) := by rw [ep, List.length_append, List.length_cons]
    have hr : rd l (P.length : Int) = m := by rw [ep]; exact rd_app P m R
    obtain ⟨s, h1, h2, h3⟩ := Settled_l0 id e ps l hps hl h0 R (P ++ [m]) (by rw [ep, app_snoc])
    rw [List.map_append, List.map_cons, List.map_nil, List.length_append, List.length_singleton] at h3
    have hacc : (P.map (mtch id e ps)).length < 17592186044416 := by rw [List.length_map]; omega
    refine ⟨s, h1, h2, Ev.step (fun k => rfl) ?_⟩
    simp only [quorum_Settled.l0]
    rw [hr, up1 (j := P.length) (by omega)]
    refine Ev.pos (by omega) (Ev.pos (by omega) (Ev.pos (by omega) ?_))
    by_cases hm : m = id
    · rw [show mtch id e ps m = e from if_pos hm] at h3
      exact Ev.pos hm (Ev.pos hacc h3)
    · rw [show mtch id e ps m = peer ps m from if_neg hm] at h3
      exact Ev.neg hm (Settled_l1 id e ps _ m l P.length _ hps hacc ps [] rfl (by rw [up1 (by omega)]; exact h3))
theorem memB_pos {l : List Int} (h : memB 0 l = true) : 0 < l.length := by
  cases l with
  | nil => rw [memB] at h; exact absurd h (by decide)
  | cons a b => simp
theorem memB_seven {l : List Int} (h : memB 0 l = true) : l.length ≤ 7 := by have := memB_len l 0 h (by omega); omega
theorem Settled_ev (l : List Int) (id e : Int) (ps : List S34) (hl : l.length < 2305843009213693952) (hps : ps.length < 4611686018427387904) : ∃ v, Ev (fun k => quorum_Settled.f k l id e ps) v ∧ (memB 0 l = false → v = 0) ∧
    (memB 0 l = true → ∃ s : List Int, s.Perm (l.map (mtch id e ps)) ∧ s.Pairwise (· ≤ ·) ∧ v = rd s (mid l.length : Int)) := by
  unfold quorum_Settled.f
  by_cases h : memB 0 l = true
  · obtain ⟨s, h1, h2, h3⟩ := Settled_l0 id e ps l hps (memB_seven h) (memB_pos h) l [] rfl
    exact ⟨_, Ev.bind (Members_ev l (by omega)) (Ev.pos h h3), fun h4 => absurd h (by rw [h4]; decide), fun _ => ⟨s, h1, h2, rfl⟩⟩
  · exact ⟨0, Ev.bind (Members_ev l (by omega)) (Ev.neg h (Ev.now _)), fun _ => rfl, fun h4 => absurd h4 h⟩
/-- How many have at least so much: of numbers in order, by the place. -/
theorem cnt_perm {p : Int → Bool} {s t : List Int} (h : s.Perm t) : cnt p s = cnt p t := (h.filter p).length_eq
theorem sorted_ge {s : List Int} (h : s.Pairwise (· ≤ ·)) {j : Nat} (hj : j < s.length) : s.length - j ≤ cnt (fun x => decide (rd s (j : Int) ≤ x)) s := by
  have e : s = s.take j ++ s[j] :: s.drop (j + 1) := by rw [← List.drop_eq_getElem_cons hj, List.take_append_drop]
  have hr : rd s (j : Int) = s[j] := by
    unfold rd
    rw [Int.toNat_natCast, List.getD_eq_getElem?_getD, List.getElem?_eq_getElem hj]; rfl
  rw [hr]
  obtain ⟨v, hv⟩ : ∃ v, v = s[j] := ⟨_, rfl⟩
  rw [← hv] at e ⊢
  have h2 := h
  rw [e] at h2
  obtain ⟨_, h3, _⟩ := List.pairwise_append.1 h2
  obtain ⟨h4, _⟩ := List.pairwise_cons.1 h3
  have hsub : (v :: s.drop (j + 1)).filter (fun x => decide (v ≤ x)) = v :: s.drop (j + 1) := List.filter_eq_self.2 (fun x hx => by
    rcases List.mem_cons.1 hx with rfl | hx
    · simp
    · simpa using h4 x hx)
  have : cnt (fun x => decide (v ≤ x)) s = ((s.take j).filter (fun x => decide (v ≤ x))).length + (v :: s.drop (j + 1)).length := by
    unfold cnt
    conv => lhs; rw [e]
    rw [List.filter_append, List.length_append, hsub]
  rw [this, List.length_cons, List.length_drop]
  omega
theorem sorted_gt {s : List Int} (h : s.Pairwise (· ≤ ·)) {j : Nat} (hj : j < s.length) {u : Int} (hu : rd s (j : Int) < u) : cnt (fun x => decide (u ≤ x)) s ≤ s.length - 1 - j := by
  have e : s = s.take j ++ s[j] :: s.drop (j + 1) := by rw [← List.drop_eq_getElem_cons hj, List.take_append_drop]
  have hr : rd s (j : Int) = s[j] := by
    unfold rd
    rw [Int.toNat_natCast, List.getD_eq_getElem?_getD, List.getElem?_eq_getElem hj]; rfl
  rw [hr] at hu
  obtain ⟨v, hv⟩ : ∃ v, v = s[j] := ⟨_, rfl⟩
  rw [← hv] at e hu
  have h2 := h
  rw [e] at h2
  obtain ⟨_, _, h3⟩ := List.pairwise_append.1 h2
  have hz : (s.take j).filter (fun x => decide (u ≤ x)) = [] := List.filter_eq_nil_iff.2 (fun x hx => by
    have := h3 x hx v List.mem_cons_self
    simp; omega)
  have : cnt (fun x => decide (u ≤ x)) s = ((s.drop (j + 1)).filter (fun x => decide (u ≤ x))).length := by
    unfold cnt
    conv => lhs; rw [e]
    rw [List.filter_append, List.length_append, hz, List.filter_cons_of_neg (by simp; omega)]
    simp
  rw [this]
  have := List.length_filter_le (fun x => decide (u ≤ x)) (s.drop (j + 1))
  rw [List.length_drop] at this
  omega
end Go.Proofs.Ytjlhohdfojkogaa.Qm
