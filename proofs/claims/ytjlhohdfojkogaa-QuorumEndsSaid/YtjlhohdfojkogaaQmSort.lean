/- Sorting of few numbers: what it comes to is in order, and the same numbers. No condition beside those in each row. -/
import Derived.Test.YtjlhohdfojkogaaPAx2
import Derived.Test.YtjlhohdfojkogaaPAx3
import Derived.Test.YtjlhohdfojkogaaPAx1
import Derived.Test.YtjlhohdfojkogaaQmBase
namespace Go.Proofs.Ytjlhohdfojkogaa.Qm
open Go.RowKit Go.Proofs.YtjlhohdfojkogaaW.PrintWords Go.Proofs.YtjlhohdfojkogaaW.PrintLast Go.Proofs.YtjlhohdfojkogaaW.PrintMore Go.Proofs.Ytjlhohdfojkogaa.PA Go.Proofs.Ytjlhohdfojkogaa.Ba Go.Proofs.Ytjlhohdfojkogaa.Sh
set_option linter.unusedVariables false

/-- A number put into its place, from the end of what stands ahead of it (reversed) down. -/
def insR : List Int → Int → List Int → List Int
  | [], v, T => v :: T
  | u :: L, v, T => if v < u then insR L v (u :: T) else (u :: L).reverse ++ v :: T
theorem insR_app : ∀ (L : List Int) (v : Int) (T R : List Int), insR L v (T ++ R) = insR L v T ++ R
  | [], v, T, R => rfl
  | u :: L, v, T, R => by
    rw [insR, insR]
    by_cases h : v < u
    · rw [if_pos h, if_pos h]; exact insR_app L v (u :: T) R
    · rw [if_neg h, if_neg h]; simp
theorem insR_perm : ∀ (L : List Int) (v : Int) (T : List Int), (insR L v T).Perm (L.reverse ++ v :: T)
  | [], v, T => List.Perm.refl _
  | u :: L, v, T => by
    rw [insR]
    by_cases h : v < u
    · rw [if_pos h, List.reverse_cons, List.append_assoc]
      refine (insR_perm L v (u :: T)).trans (List.Perm.append_left _ ?_)
      exact List.Perm.swap _ _ _
    · rw [if_neg h]
theorem insR_sorted : ∀ (L : List Int) (v : Int) (T : List Int), (L.reverse ++ T).Pairwise (· ≤ ·) → (∀ t ∈ T, v ≤ t) → (insR L v T).Pairwise (· ≤ ·)
  | [], v, T, h, hv => List.pairwise_cons.2 ⟨hv, h⟩
  | u :: L, v, T, h, hv => by
    rw [insR]
    rw [List.reverse_cons, List.append_assoc] at h
    by_cases hu : v < u
    · rw [if_pos hu]
      refine insR_sorted L v (u :: T) h (fun t ht => ?_)
      rcases List.mem_cons.1 ht with rfl | ht
      · omega
      · exact hv t ht
    · rw [if_neg hu, List.reverse_cons, List.append_assoc]
      obtain ⟨h1, h2, h3⟩ := List.pairwise_append.1 h
      obtain ⟨h4, h5⟩ := List.pairwise_cons.1 h2
      refine List.pairwise_append.2 ⟨h1, List.pairwise_cons.2 ⟨fun y hy => ?_, List.pairwise_cons.2 ⟨hv, h5⟩⟩, fun x hx y hy => ?_⟩
      · rcases List.mem_cons.1 hy with rfl | hy
        · omega
        · exact h4 y hy
      · have hxu := h3 x hx u List.mem_cons_self
        rcases List.mem_cons.1 hy with rfl | hy
        · exact hxu
        · rcases List.mem_cons.1 hy with rfl | hy
          · omega
          · have := h4 y hy; omega
theorem less_at (a b : Int) : cmp_Less_uint64.f a b = some (decide (a < b)) := by
  unfold cmp_Less_uint64.f cmp_isNaN_uint64.f
  simp
theorem rd_pos {l P : List Int} {q : Int} {R : List Int} (e : l = P ++ q :: R) {j : Int} (hj : j = (P.length : Int)) : rd l j = q := by rw [e, hj]; exact rd_app P q R
theorem set_two (P : List Int) (u v : Int) (R : List Int) : ((P ++ u :: v :: R).set (P.length + 1) u).set P.length v = P ++ v :: u :: R := by
  rw [List.set_append_right _ _ (by omega), show P.length + 1 - P.length = 1 by omega, List.set_append_right _ _ (Nat.le_refl _), Nat.sub_self]
  rfl
/-- The inner rounds. -/
theorem ins_l1 (n : Nat) (hn : n < 4611686018427387904) (i : Nat) (r : List Int) (v : Int) : ∀ (L T : List Int), L.length + 1 + T.length = n → i < n →
    (Ev (fun k => slices_insertionSortOrdered_uint64.l0 k (insR L v T) 0 (n : Int) (wrap64 ((i : Int) + 1))) r) →
    Ev (fun k => slices_insertionSortOrdered_uint64.l1 k (L.reverse ++ v :: T) 0 (n : Int) (i : Int) (L.length : Int)) r
  | [], T, hlen, hi, h => by
    refine Ev.step (fun k => rfl) ?_
    simp only [slices_insertionSortOrdered_uint64.l1]
    exact Ev.neg (by simp) h
  | u :: L, T, hlen, hi, h => by
    rw [List.length_cons] at hlen
    have e : (u :: L).reverse ++ v :: T = L.reverse ++ u :: v :: T := by simp
    have hlen2 : ((u :: L).reverse ++ v :: T).length = n := by simp; omega
    have r1 : rd ((u :: L).reverse ++ v :: T) (((u :: L).length : Nat) : Int) = v := rd_pos rfl (by simp)
    have hw : wrap64 ((((u :: L).length : Nat) : Int) - 1) = (L.length : Int) := by rw [List.length_cons, wrap64_id (by omega) (by omega)]; omega
    have r2 : rd ((u :: L).reverse ++ v :: T) (L.length : Int) = u := rd_pos e (by simp)
    refine Ev.step (fun k => rfl) ?_
    simp only [slices_insertionSortOrdered_uint64.l1]
    rw [hw, r1, r2, less_at]
    refine Ev.pos (by rw [List.length_cons]; omega) (Ev.pos (by omega) (Ev.pos (by rw [hlen2, List.length_cons]; omega) (Ev.pos (by omega) (Ev.pos (by rw [hlen2]; omega) (Ev.bind_const ?_)))))
    rw [insR] at h
    by_cases hv : v < u
    · rw [if_pos hv] at h
      rw [decide_eq_true hv]
      refine Ev.pos rfl ?_
      have ih := ins_l1 n hn i r v L (u :: T) (by rw [List.length_cons]; omega) hi h
      rw [Int.toNat_natCast, Int.toNat_natCast, e, List.length_cons]
      have := set_two L.reverse u v T
      rw [List.length_reverse] at this
      rw [this]
      exact ih
    · rw [if_neg hv] at h
      rw [decide_eq_false hv]
      exact Ev.neg (by decide) h
/-- The outer rounds. -/
theorem ins_l0 (n : Nat) (hn : n < 4611686018427387904) : ∀ (R S : List Int), S.length + R.length = n → S.Pairwise (· ≤ ·) → ∃ s, s.Perm (S ++ R) ∧ s.Pairwise (· ≤ ·) ∧ Ev (fun k => slices_insertionSortOrdered_uint64.l0 k (S ++ R) 0 (n : Int) (S.length : Int)) s
  | [], S, hlen, hs => by
    rw [List.append_nil]
    refine ⟨S, List.Perm.refl _, hs, Ev.step (fun k => rfl) ?_⟩
    simp only [slices_insertionSortOrdered_uint64.l0]
    exact Ev.neg (by simp at hlen; omega) (Ev.now _)
  | v :: R, S, hlen, hs => by
    rw [List.length_cons] at hlen
    have hp := insR_perm S.reverse v []
    rw [List.reverse_reverse] at hp
    have hso : (insR S.reverse v []).Pairwise (· ≤ ·) := insR_sorted S.reverse v [] (by simpa using hs) (by simp)
    have hl : (insR S.reverse v []).length = S.length + 1 := by rw [hp.length_eq]; simp
    obtain ⟨s, h1, h2, h3⟩ := ins_l0 n hn R (insR S.reverse v []) (by omega) hso
    refine ⟨s, h1.trans ?_, h2, Ev.step (fun k => rfl) ?_⟩
    · refine (List.Perm.append_right R hp).trans ?_
      simp
    · simp only [slices_insertionSortOrdered_uint64.l0]
      refine Ev.pos (by omega) ?_
      rw [hl, ← insR_app, List.nil_append] at h3
      have := ins_l1 n hn S.length s v S.reverse R (by rw [List.length_reverse]; omega) (by omega) (by rw [up1 (by omega)]; exact h3)
      rw [List.reverse_reverse, List.length_reverse] at this
      exact this
theorem Insertion_ev (l : List Int) (hl : l.length < 4611686018427387904) : ∃ s, s.Perm l ∧ s.Pairwise (· ≤ ·) ∧ Ev (fun k => slices_insertionSortOrdered_uint64.f k l 0 (l.length : Int)) s := by
  unfold slices_insertionSortOrdered_uint64.f
  cases l with
  | nil =>
    refine ⟨[], List.Perm.refl _, List.Pairwise.nil, ?_⟩
    rw [show wrap64 (0 + 1) = 1 by rw [wrap64_id (by omega) (by omega)]; rfl]
    refine Ev.step (fun k => rfl) ?_
    simp only [slices_insertionSortOrdered_uint64.l0]
    exact Ev.neg (by simp) (Ev.now _)
  | cons x r =>
    obtain ⟨s, h1, h2, h3⟩ := ins_l0 (x :: r).length hl r [x] (by simp; omega) (List.pairwise_singleton _ _)
    refine ⟨s, h1, h2, ?_⟩
    rw [show wrap64 (0 + 1) = 1 by rw [wrap64_id (by omega) (by omega)]; rfl]
    exact h3
theorem len_some : ∀ n : Fin 13, (bits_Len.f 5 (IntKind.u64.wrap (n.val : Int))).isSome = true := by decide +kernel
theorem Sort_ev (l : List Int) (hl : l.length ≤ 12) : ∃ s, s.Perm l ∧ s.Pairwise (· ≤ ·) ∧ Ev (fun k => slices_Sort_uint64_uint64.f k l) s := by
  obtain ⟨s, h1, h2, h3⟩ := Insertion_ev l (by omega)
  refine ⟨s, h1, h2, ?_⟩
  obtain ⟨t, ht⟩ := Option.isSome_iff_exists.1 (len_some ⟨l.length, by omega⟩)
  unfold slices_Sort_uint64_uint64.f
  refine Ev.bind (Ev.of (k := 5) (fun k => bits_Len.mono _ k) ht) (Ev.bind ?_ (Ev.now _))
  unfold slices_pdqsortOrdered_uint64.f
  refine Ev.step (fun k => rfl) ?_
  simp only [slices_pdqsortOrdered_uint64.l0]
  refine Ev.pos ?_ (Ev.bind h3 (Ev.now _))
  rw [Int.sub_zero, wrap64_id (by omega) (by omega)]
  omega
end Go.Proofs.Ytjlhohdfojkogaa.Qm
