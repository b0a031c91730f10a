/- Members, counts, majorities: what the program's functions come to. No condition beside those in each row. -/
import Derived.Test.YtjlhohdfojkogaaPAx4
import Derived.Test.YtjlhohdfojkogaaPAx1
import Derived.Test.YtjlhohdfojkogaaBa
import Derived.Test.YtjlhohdfojkogaaSh
namespace Go.Proofs.Ytjlhohdfojkogaa.Qm
open Go.RowKit Go.Proofs.YtjlhohdfojkogaaW.PrintWords Go.Proofs.YtjlhohdfojkogaaW.PrintLast Go.Proofs.YtjlhohdfojkogaaW.PrintMore Go.Proofs.Ytjlhohdfojkogaa.PA Go.Proofs.Ytjlhohdfojkogaa.Ba Go.Proofs.Ytjlhohdfojkogaa.Sh
set_option linter.unusedVariables false

theorem up1 {j : Nat} (hb : j < 4611686018427387904) : wrap64 ((j : Int) + 1) = ((j + 1 : Nat) : Int) := by rw [wrap64_id (by omega) (by omega)]; omega
theorem down1 {j : Nat} (h : 0 < j) (hb : j < 4611686018427387904) : wrap64 ((j : Int) - 1) = ((j - 1 : Nat) : Int) := by rw [wrap64_id (by omega) (by omega)]; omega
theorem rd_app (P : List Int) (x : Int) (R : List Int) : rd (P ++ x :: R) (P.length : Int) = x := by
  unfold rd
  rw [Int.toNat_natCast, List.getD_eq_getElem?_getD, List.getElem?_append_right (Nat.le_refl _), Nat.sub_self]
  rfl
theorem app_snoc (P : List Int) (x : Int) (R : List Int) : P ++ x :: R = (P ++ [x]) ++ R := by rw [List.append_assoc]; rfl

/-! one of some -/
theorem Index_l0 (x : Int) (l : List Int) (hl : l.length < 4611686018427387904) : ∀ (R P : List Int), l = P ++ R → ∃ i : Int, (x ∈ R → 0 ≤ i) ∧ (x ∉ R → i = -1) ∧ Ev (fun k => slices_Index_int_int.l0 k l x (l.length : Int) (P.length : Int)) i
  | [], P, e => by
    refine ⟨-1, fun h => by simp at h, fun _ => rfl, Ev.step (fun k => rfl) ?_⟩
    simp only [slices_Index_int_int.l0]
    refine Ev.neg (by rw [e, List.append_nil]; omega) (Ev.now _)
  | y :: R, P, e => by
    have hlen : l.length = P.length + (R.length + 1) := by rw [e, List.length_append, List.length_cons]
    have hr : rd l (P.length : Int) = y := by rw [e]; exact rd_app P y R
    by_cases hxy : x = y
    · refine ⟨(P.length : Int), fun _ => Int.natCast_nonneg _, fun h => absurd (by rw [hxy]; exact List.mem_cons_self) h, Ev.step (fun k => rfl) ?_⟩
      simp only [slices_Index_int_int.l0]
      rw [hr]
      exact Ev.pos (by omega) (Ev.pos (by omega) (Ev.pos (by omega) (Ev.pos hxy (Ev.now _))))
    · obtain ⟨i, h1, h2, h3⟩ := Index_l0 x l hl R (P ++ [y]) (by rw [e, app_snoc])
      refine ⟨i, fun h => h1 ((List.mem_cons.1 h).resolve_left hxy), fun h => h2 (fun h3 => h (List.mem_cons_of_mem _ h3)), Ev.step (fun k => rfl) ?_⟩
      simp only [slices_Index_int_int.l0]
      rw [hr, up1 (by omega)]
      rw [List.length_append, List.length_singleton] at h3
      exact Ev.pos (by omega) (Ev.pos (by omega) (Ev.pos (by omega) (Ev.neg hxy h3)))
theorem Contains_ev (l : List Int) (x : Int) (hl : l.length < 4611686018427387904) : Ev (fun k => slices_Contains_int_int.f k l x) (decide (x ∈ l)) := by
  obtain ⟨i, h1, h2, h3⟩ := Index_l0 x l hl l [] rfl
  unfold slices_Contains_int_int.f slices_Index_int_int.f
  refine Ev.bind h3 ?_
  have : decide (i ≥ 0) = decide (x ∈ l) := by
    by_cases h : x ∈ l
    · rw [decide_eq_true (h1 h), decide_eq_true h]
    · rw [h2 h, decide_eq_false h]; rfl
  rw [this]
  exact Ev.now _

/-! members -/
def memB (p : Int) : List Int → Bool
  | [] => decide (p > 0)
  | x :: r => if x ≤ p then false else if x > 7 then false else memB x r
theorem memB_len : ∀ (l : List Int) (p : Int), memB p l = true → p ≤ 7 → (l.length : Int) ≤ 7 - p
  | [], p, h, hp => by simp; omega
  | x :: r, p, h, hp => by
    rw [memB] at h
    by_cases h1 : x ≤ p
    · rw [if_pos h1] at h; cases h
    · rw [if_neg h1] at h
      by_cases h2 : x > 7
      · rw [if_pos h2] at h; cases h
      · rw [if_neg h2] at h
        have := memB_len r x h (by omega)
        rw [List.length_cons]; omega
theorem memB_rise : ∀ (l : List Int) (p : Int), memB p l = true → (∀ x ∈ l, p < x) ∧ l.Pairwise (· < ·)
  | [], p, h => ⟨fun x hx => by simp at hx, List.Pairwise.nil⟩
  | x :: r, p, h => by
    rw [memB] at h
    by_cases h1 : x ≤ p
    · rw [if_pos h1] at h; cases h
    · rw [if_neg h1] at h
      by_cases h2 : x > 7
      · rw [if_pos h2] at h; cases h
      · rw [if_neg h2] at h
        obtain ⟨h3, h4⟩ := memB_rise r x h
        refine ⟨fun y hy => ?_, List.pairwise_cons.2 ⟨h3, h4⟩⟩
        rcases List.mem_cons.1 hy with rfl | hy
        · omega
        · have := h3 y hy; omega
theorem Members_l0 (l : List Int) (hl : l.length < 4611686018427387904) : ∀ (R P : List Int) (p : Int), l = P ++ R → Ev (fun k => wal_Members.l0 k p l (l.length : Int) (P.length : Int)) (memB p R)
  | [], P, p, e => by
    refine Ev.step (fun k => rfl) ?_
    simp only [wal_Members.l0]
    exact Ev.neg (by rw [e, List.append_nil]; omega) (Ev.now _)
  | x :: R, P, p, e => by
    have hlen : l.length = P.length + (R.length + 1) := by rw [e, List.length_append, List.length_cons]
    have hr : rd l (P.length : Int) = x := by rw [e]; exact rd_app P x R
    have ih := Members_l0 l hl R (P ++ [x]) x (by rw [e, app_snoc])
    rw [List.length_append, List.length_singleton] at ih
    refine Ev.step (fun k => rfl) ?_
    simp only [wal_Members.l0]
    rw [hr, up1 (by omega), memB]
    refine Ev.pos (by omega) (Ev.pos (by omega) (Ev.pos (by omega) ?_))
    by_cases h1 : x ≤ p
    · rw [if_pos h1]; exact Ev.pos h1 (Ev.now _)
    · rw [if_neg h1]
      refine Ev.neg h1 ?_
      by_cases h2 : x > 7
      · rw [if_pos h2]; exact Ev.pos h2 (Ev.now _)
      · rw [if_neg h2]; exact Ev.neg h2 ih
theorem Members_ev (l : List Int) (hl : l.length < 4611686018427387904) : Ev (fun k => wal_Members.f k l) (memB 0 l) := Members_l0 l hl l [] 0 rfl

/-! counts -/
def cnt (p : Int → Bool) (l : List Int) : Nat := (l.filter p).length
theorem cnt_cons (p : Int → Bool) (x : Int) (l : List Int) : cnt p (x :: l) = cnt p l + (if p x = true then 1 else 0) := by
  unfold cnt
  by_cases h : p x = true
  · rw [List.filter_cons_of_pos h, if_pos h]; rfl
  · rw [List.filter_cons_of_neg h, if_neg h]; rfl
theorem cnt_le (p : Int → Bool) (l : List Int) : cnt p l ≤ l.length := List.length_filter_le _ _
theorem count25_l0 (y l : List Int) (hy : y.length < 4611686018427387904) (hl : l.length < 4611686018427387904) : ∀ (R P : List Int) (n : Nat), l = P ++ R → n ≤ P.length → Ev (fun k => quorum_count_25.l0 k y (n : Int) l (l.length : Int) (P.length : Int)) ((n + cnt (fun m => decide (m ∈ y)) R : Nat) : Int)
  | [], P, n, e, hn => by
    refine Ev.step (fun k => rfl) ?_
    simp only [quorum_count_25.l0]
    exact Ev.neg (by rw [e, List.append_nil]; omega) (Ev.now _)
  | x :: R, P, n, e, hn => by
    have hlen : l.length = P.length + (R.length + 1) := by rw [e, List.length_append, List.length_cons]
    have hr : rd l (P.length : Int) = x := by rw [e]; exact rd_app P x R
    have ih := fun n hn => count25_l0 y l hy hl R (P ++ [x]) n (by rw [e, app_snoc]) hn
    rw [List.length_append, List.length_singleton] at ih
    refine Ev.step (fun k => rfl) ?_
    simp only [quorum_count_25.l0]
    rw [hr, up1 (j := P.length) (by omega), up1 (j := n) (by omega), cnt_cons]
    refine Ev.pos (by omega) (Ev.pos (by omega) (Ev.pos (by omega) (Ev.bind (Contains_ev y x hy) ?_)))
    by_cases h : x ∈ y
    · rw [decide_eq_true h]
      refine Ev.pos rfl ?_
      have := ih (n + 1) (by omega)
      rwa [show n + 1 + cnt (fun m => decide (m ∈ y)) R = n + (cnt (fun m => decide (m ∈ y)) R + (if true = true then 1 else 0)) by rw [if_pos rfl]; omega] at this
    · rw [decide_eq_false h]
      refine Ev.neg (by decide) ?_
      have := ih n (by omega)
      rwa [show n + cnt (fun m => decide (m ∈ y)) R = n + (cnt (fun m => decide (m ∈ y)) R + (if false = true then 1 else 0)) by rw [if_neg (by decide)]; omega] at this
theorem count28_l0 (y l : List Int) (hy : y.length < 4611686018427387904) (hl : l.length < 4611686018427387904) : ∀ (R P : List Int) (n : Nat), l = P ++ R → n ≤ P.length → Ev (fun k => quorum_count_28.l0 k y (n : Int) l (l.length : Int) (P.length : Int)) ((n + cnt (fun m => !decide (m ∈ y)) R : Nat) : Int)
  | [], P, n, e, hn => by
    refine Ev.step (fun k => rfl) ?_
    simp only [quorum_count_28.l0]
    exact Ev.neg (by rw [e, List.append_nil]; omega) (Ev.now _)
  | x :: R, P, n, e, hn => by
    have hlen : l.length = P.length + (R.length + 1) := by rw [e, List.length_append, List.length_cons]
    have hr : rd l (P.length : Int) = x := by rw [e]; exact rd_app P x R
    have ih := fun n hn => count28_l0 y l hy hl R (P ++ [x]) n (by rw [e, app_snoc]) hn
    rw [List.length_append, List.length_singleton] at ih
    refine Ev.step (fun k => rfl) ?_
    simp only [quorum_count_28.l0]
    rw [hr, up1 (j := P.length) (by omega), up1 (j := n) (by omega), cnt_cons]
    refine Ev.pos (by omega) (Ev.pos (by omega) (Ev.pos (by omega) (Ev.bind (Ev.bind (Contains_ev y x hy) (Ev.now _)) ?_)))
    by_cases h : x ∈ y
    · rw [decide_eq_true h]
      refine Ev.neg (by decide) ?_
      have := ih n (by omega)
      rwa [show n + cnt (fun m => !decide (m ∈ y)) R = n + (cnt (fun m => !decide (m ∈ y)) R + (if (!true) = true then 1 else 0)) by rw [if_neg (by decide)]; omega] at this
    · rw [decide_eq_false h]
      refine Ev.pos rfl ?_
      have := ih (n + 1) (by omega)
      rwa [show n + 1 + cnt (fun m => !decide (m ∈ y)) R = n + (cnt (fun m => !decide (m ∈ y)) R + (if (!false) = true then 1 else 0)) by simp only [Bool.not_false, if_true]; omega] at this
theorem count29_28 : ∀ k y n l m j, quorum_count_29.l0 k y n l m j = quorum_count_28.l0 k y n l m j
  | 0, _, _, _, _, _ => rfl
  | k + 1, y, n, l, m, j => by
    rw [quorum_count_29.l0, quorum_count_28.l0]
    simp only [count29_28 k]
    rfl
def gone (l y : List Int) : Nat := cnt (fun m => !decide (m ∈ y)) l
def has (l y : List Int) : Nat := cnt (fun m => decide (m ∈ y)) l
theorem count25_ev (l y : List Int) (hl : l.length < 4611686018427387904) (hy : y.length < 4611686018427387904) : Ev (fun k => quorum_count_25.f k l y) ((has l y : Nat) : Int) := by
  have := count25_l0 y l hy hl l [] 0 rfl (Nat.le_refl _)
  rwa [Nat.zero_add] at this
theorem count28_ev (l y : List Int) (hl : l.length < 4611686018427387904) (hy : y.length < 4611686018427387904) : Ev (fun k => quorum_count_28.f k l y) ((gone l y : Nat) : Int) := by
  have := count28_l0 y l hy hl l [] 0 rfl (Nat.le_refl _)
  rwa [Nat.zero_add] at this
theorem count29_ev (l y : List Int) (hl : l.length < 4611686018427387904) (hy : y.length < 4611686018427387904) : Ev (fun k => quorum_count_29.f k l y) ((gone l y : Nat) : Int) := by
  have := count28_ev l y hl hy
  unfold quorum_count_29.f
  unfold quorum_count_28.f at this
  exact Ev.congr (fun k => count29_28 k _ _ _ _ _) this
def most (l y : List Int) : Bool := memB 0 l && decide (2 * has l y > l.length)
theorem Most_ev (l y : List Int) (hl : l.length < 2305843009213693952) (hy : y.length < 4611686018427387904) : Ev (fun k => quorum_Most.f k l y) (most l y) := by
  unfold quorum_Most.f most
  refine Ev.bind (Members_ev l (by omega)) ?_
  cases memB 0 l with
  | true =>
    refine Ev.pos rfl (Ev.bind (count25_ev l y (by omega) hy) ?_)
    have hle : has l y ≤ l.length := cnt_le _ _
    rw [show decide (wrap64 (2 * ((has l y : Nat) : Int)) > (l.length : Int)) = (true && decide (2 * has l y > l.length)) by
      rw [wrap64_id (by omega) (by omega), Bool.true_and, Bool.eq_iff_iff, decide_eq_true_eq, decide_eq_true_eq]; omega]
    exact Ev.now _
  | false => exact Ev.neg (by decide) (Ev.now _)
def next (l y : List Int) : Int := if memB 0 l = true then (if memB 0 y = true then (if gone l y + gone y l = 1 then 0 else 1) else 4) else 4
theorem Next_ev (l y : List Int) (hl : l.length < 2305843009213693952) (hy : y.length < 2305843009213693952) : Ev (fun k => quorum_Next.f k l y) (next l y) := by
  unfold quorum_Next.f next
  refine Ev.bind (Members_ev l (by omega)) ?_
  by_cases h1 : memB 0 l = true
  · rw [if_pos h1]
    refine Ev.pos h1 (Ev.bind (Members_ev y (by omega)) ?_)
    by_cases h2 : memB 0 y = true
    · rw [if_pos h2]
      refine Ev.pos h2 (Ev.bind (count28_ev l y (by omega) (by omega)) (Ev.bind (count29_ev y l (by omega) (by omega)) ?_))
      have e1 : gone l y ≤ l.length := cnt_le _ _
      have e2 : gone y l ≤ y.length := cnt_le _ _
      rw [wrap64_id (by omega) (by omega)]
      by_cases h3 : gone l y + gone y l = 1
      · rw [if_pos h3]; exact Ev.pos (by omega) (Ev.now _)
      · rw [if_neg h3]; exact Ev.neg (by omega) (Ev.now _)
    · rw [if_neg h2]; exact Ev.neg h2 (Ev.now _)
  · rw [if_neg h1]; exact Ev.neg h1 (Ev.now _)
theorem most_ev : Ev (fun k => gafferlaw15_most.f k) true := Ev.of (k := 30) (fun k => gafferlaw15_most.mono k) (by decide +kernel)
theorem settled_ev : Ev (fun k => gafferlaw15_settled.f k) true := Ev.of (k := 40) (fun k => gafferlaw15_settled.mono k) (by decide +kernel)
theorem next_comm (l y : List Int) : next l y = next y l := by
  unfold next
  by_cases h1 : memB 0 l = true <;> by_cases h2 : memB 0 y = true <;> simp only [h1, h2, if_true, Nat.add_comm (gone y l)] <;> rfl
end Go.Proofs.Ytjlhohdfojkogaa.Qm
