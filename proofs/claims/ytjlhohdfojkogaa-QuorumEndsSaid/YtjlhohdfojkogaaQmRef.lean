/- Members, counts, majorities: what the document's functions come to. No condition beside those in each row. -/
import Derived.Test.YtjlhohdfojkogaaPAx5
import Derived.Test.YtjlhohdfojkogaaPAx4
import Derived.Test.YtjlhohdfojkogaaQmBase
namespace Go.Proofs.Ytjlhohdfojkogaa.Qm
open Go.RowKit Go.Proofs.YtjlhohdfojkogaaW.PrintWords Go.Proofs.YtjlhohdfojkogaaW.PrintLast Go.Proofs.YtjlhohdfojkogaaW.PrintMore Go.Proofs.Ytjlhohdfojkogaa.PA Go.Proofs.Ytjlhohdfojkogaa.Ba Go.Proofs.Ytjlhohdfojkogaa.Sh
set_option linter.unusedVariables false

theorem Has_l0 (x : Int) (l : List Int) (hl : l.length < 4611686018427387904) : ∀ (R P : List Int), l = P ++ R → Ev (fun k => gafferref15_Has.l0 k x l (l.length : Int) (P.length : Int)) (decide (x ∈ R))
  | [], P, e => by
    refine Ev.step (fun k => rfl) ?_
    simp only [gafferref15_Has.l0]
    rw [decide_eq_false (show ¬ x ∈ ([] : List Int) by simp)]
    exact Ev.neg (by rw [e, List.append_nil]; omega) (Ev.now _)
  | y :: R, P, e => by
    have hlen : l.length = P.length + (R.length + 1) := by rw [e, List.length_append, List.length_cons]
    have hr : rd l (P.length : Int) = y := by rw [e]; exact rd_app P y R
    have ih := Has_l0 x l hl R (P ++ [y]) (by rw [e, app_snoc])
    rw [List.length_append, List.length_singleton] at ih
    refine Ev.step (fun k => rfl) ?_
    simp only [gafferref15_Has.l0]
    rw [hr, up1 (by omega)]
    refine Ev.pos (by omega) (Ev.pos (by omega) (Ev.pos (by omega) ?_))
    by_cases h : y = x
    · rw [decide_eq_true (show x ∈ y :: R by rw [h]; exact List.mem_cons_self)]
      exact Ev.pos h (Ev.now _)
    · rw [show decide (x ∈ y :: R) = decide (x ∈ R) by rw [Bool.eq_iff_iff, decide_eq_true_eq, decide_eq_true_eq]; exact ⟨fun h2 => (List.mem_cons.1 h2).resolve_left (fun e => h e.symm), List.mem_cons_of_mem _⟩]
      exact Ev.neg h ih
theorem Has_ev (l : List Int) (x : Int) (hl : l.length < 4611686018427387904) : Ev (fun k => gafferref15_Has.f k l x) (decide (x ∈ l)) := Has_l0 x l hl l [] rfl
/-- What stood last: 0 at the beginning. -/
def lst (P : List Int) : Int := P.getLast?.getD 0
theorem lst_snoc (P : List Int) (x : Int) : lst (P ++ [x]) = x := by simp [lst]
theorem rd_last {l P R : List Int} {q : Int} (e : l = (P ++ [q]) ++ R) : rd l (((P ++ [q]).length - 1 : Nat) : Int) = q := by
  have : (P ++ [q]).length - 1 = P.length := by simp
  rw [this, e, List.append_assoc]
  exact rd_app P q R
theorem RMembers_l0 (l : List Int) (hl : l.length < 4611686018427387904) : ∀ (R P : List Int), l = P ++ R → (P ≠ [] → 1 ≤ lst P) → Ev (fun k => gafferref03_Members.l0 k l l (l.length : Int) (P.length : Int)) (memB (lst P) R)
  | [], P, e, hp => by
    refine Ev.step (fun k => rfl) ?_
    simp only [gafferref03_Members.l0]
    refine Ev.neg (by rw [e, List.append_nil]; omega) ?_
    rw [show decide ((l.length : Int) > 0) = memB (lst P) [] by
      rw [memB, Bool.eq_iff_iff, decide_eq_true_eq, decide_eq_true_eq, e, List.append_nil]
      cases P with
      | nil => simp [lst]
      | cons a b => have := hp (by simp); constructor <;> intro _ <;> simp <;> omega]
    exact Ev.now _
  | x :: R, P, e, hp => by
    have hlen : l.length = P.length + (R.length + 1) := by rw [e, List.length_append, List.length_cons]
    have hr : rd l (P.length : Int) = x := by rw [e]; exact rd_app P x R
    have ih := fun h => RMembers_l0 l hl R (P ++ [x]) (by rw [e, app_snoc]) h
    rw [List.length_append, List.length_singleton, lst_snoc] at ih
    refine Ev.step (fun k => rfl) ?_
    simp only [gafferref03_Members.l0]
    rw [hr, memB]
    refine Ev.pos (by omega) (Ev.pos (by omega) (Ev.pos (by omega) ?_))
    by_cases h1 : x < 1
    · have : x ≤ lst P := by
        rcases List.eq_nil_or_concat P with rfl | ⟨Q, q, rfl⟩
        · show x ≤ 0; omega
        · have := hp (by simp); omega
      rw [if_pos this]
      exact Ev.pos h1 (Ev.now _)
    · refine Ev.neg h1 ?_
      by_cases h2 : x > 7
      · rw [if_pos h2]
        have : (if x ≤ lst P then false else false) = false := by split <;> rfl
        rw [this]
        exact Ev.pos h2 (Ev.now _)
      · rw [if_neg h2]
        refine Ev.neg h2 ?_
        rw [up1 (by omega)]
        rcases List.eq_nil_or_concat P with rfl | ⟨Q, q, rfl⟩
        · rw [if_neg (show ¬ x ≤ lst [] by show ¬ x ≤ 0; omega)]
          exact Ev.neg (by simp) (ih (fun _ => by omega))
        · rw [List.concat_eq_append] at *
          have hq : lst (Q ++ [q]) = q := lst_snoc Q q
          have hP : 0 < (Q ++ [q]).length := by simp
          have hlast : rd l (((Q ++ [q]).length - 1 : Nat) : Int) = q := rd_last e
          rw [hq, down1 hP (by omega), hlast]
          refine Ev.pos (by omega) (Ev.pos (by omega) (Ev.pos (by omega) ?_))
          by_cases h3 : x ≤ q
          · rw [if_pos h3]; exact Ev.pos h3 (Ev.now _)
          · rw [if_neg h3]; exact Ev.neg h3 (ih (fun _ => by omega))
theorem RMembers_ev (l : List Int) (hl : l.length < 4611686018427387904) : Ev (fun k => gafferref03_Members.f k l) (memB 0 l) := RMembers_l0 l hl l [] rfl (fun h => absurd rfl h)
theorem RMost_l0 (l y : List Int) (hy : y.length < 4611686018427387904) (hl : l.length < 2305843009213693952) : ∀ (R P : List Int) (n : Nat), l = P ++ R → n ≤ P.length → Ev (fun k => gafferref15_Most.l0 k l y (n : Int) l (l.length : Int) (P.length : Int)) (memB 0 l && decide (2 * (n + cnt (fun m => decide (m ∈ y)) R) > l.length))
  | [], P, n, e, hn => by
    have hP : P.length = l.length := by rw [e, List.append_nil]
    refine Ev.step (fun k => rfl) ?_
    simp only [gafferref15_Most.l0]
    refine Ev.neg (by omega) (Ev.bind (RMembers_ev l (by omega)) ?_)
    cases memB 0 l with
    | true =>
      refine Ev.pos rfl ?_
      rw [show decide (wrap64 (2 * (n : Int)) > (l.length : Int)) = (true && decide (2 * (n + cnt (fun m => decide (m ∈ y)) []) > l.length)) by
        rw [wrap64_id (by omega) (by omega), Bool.true_and, Bool.eq_iff_iff, decide_eq_true_eq, decide_eq_true_eq, show cnt (fun m => decide (m ∈ y)) [] = 0 from rfl]; omega]
      exact Ev.now _
    | false => exact Ev.neg (by decide) (Ev.now _)
  | x :: R, P, n, e, hn => by
    have hlen : l.length = P.length + (R.length + 1) := by rw [e, List.length_append, List.length_cons]
    have hr : rd l (P.length : Int) = x := by rw [e]; exact rd_app P x R
    have ih := fun n hn => RMost_l0 l y hy hl R (P ++ [x]) n (by rw [e, app_snoc]) hn
    rw [List.length_append, List.length_singleton] at ih
    refine Ev.step (fun k => rfl) ?_
    simp only [gafferref15_Most.l0]
    rw [hr, up1 (j := P.length) (by omega), up1 (j := n) (by omega), cnt_cons]
    refine Ev.pos (by omega) (Ev.pos (by omega) (Ev.pos (by omega) (Ev.bind (Has_ev y x hy) ?_)))
    by_cases h : x ∈ y
    · rw [decide_eq_true h]
      refine Ev.pos rfl ?_
      have := ih (n + 1) (by omega)
      rwa [show n + 1 + cnt (fun m => decide (m ∈ y)) R = n + (cnt (fun m => decide (m ∈ y)) R + (if true = true then 1 else 0)) by rw [if_pos rfl]; omega] at this
    · rw [decide_eq_false h]
      refine Ev.neg (by decide) ?_
      have := ih n (by omega)
      rwa [show n + cnt (fun m => decide (m ∈ y)) R = n + (cnt (fun m => decide (m ∈ y)) R + (if false = true then 1 else 0)) by rw [if_neg (by decide)]; omega] at this
theorem RMost_ev (l y : List Int) (hl : l.length < 2305843009213693952) (hy : y.length < 4611686018427387904) : Ev (fun k => gafferref15_Most.f k l y) (most l y) := by
  have := RMost_l0 l y hy hl l [] 0 rfl (Nat.le_refl _)
  rwa [Nat.zero_add] at this
theorem RNext_l1 (l y : List Int) (hl : l.length < 2305843009213693952) (hy : y.length < 2305843009213693952) : ∀ (R P : List Int) (n : Nat), y = P ++ R → n ≤ l.length + P.length → Ev (fun k => gafferref15_Next.l1 k l (n : Int) y (y.length : Int) (P.length : Int)) (if n + gone R l = 1 then 0 else 1)
  | [], P, n, e, hn => by
    have hP : P.length = y.length := by rw [e, List.append_nil]
    refine Ev.step (fun k => rfl) ?_
    simp only [gafferref15_Next.l1]
    refine Ev.neg (by omega) ?_
    rw [show gone [] l = 0 from rfl]
    by_cases h : n = 1
    · rw [show (if n + 0 = 1 then (0 : Int) else 1) = 0 from if_pos h]; exact Ev.pos (by omega) (Ev.now _)
    · rw [show (if n + 0 = 1 then (0 : Int) else 1) = 1 from if_neg h]; exact Ev.neg (by omega) (Ev.now _)
  | x :: R, P, n, e, hn => by
    have hlen : y.length = P.length + (R.length + 1) := by rw [e, List.length_append, List.length_cons]
    have hr : rd y (P.length : Int) = x := by rw [e]; exact rd_app P x R
    have ih := fun n hn => RNext_l1 l y hl hy R (P ++ [x]) n (by rw [e, app_snoc]) hn
    rw [List.length_append, List.length_singleton] at ih
    refine Ev.step (fun k => rfl) ?_
    simp only [gafferref15_Next.l1]
    rw [hr, up1 (j := P.length) (by omega), up1 (j := n) (by omega)]
    refine Ev.pos (by omega) (Ev.pos (by omega) (Ev.pos (by omega) (Ev.bind (Has_ev l x (by omega)) ?_)))
    have hg : gone (x :: R) l = gone R l + (if (!decide (x ∈ l)) = true then 1 else 0) := cnt_cons _ _ _
    by_cases h : x ∈ l
    · rw [decide_eq_true h] at hg ⊢
      refine Ev.pos rfl ?_
      have := ih n (by omega)
      rwa [show n + gone R l = n + gone (x :: R) l by rw [hg]; simp] at this
    · rw [decide_eq_false h] at hg ⊢
      refine Ev.neg (by decide) ?_
      have := ih (n + 1) (by omega)
      rwa [show n + 1 + gone R l = n + gone (x :: R) l by rw [hg]; simp; omega] at this
theorem RNext_l0 (l y : List Int) (hl : l.length < 2305843009213693952) (hy : y.length < 2305843009213693952) : ∀ (R P : List Int) (n : Nat), l = P ++ R → n ≤ P.length → Ev (fun k => gafferref15_Next.l0 k l y (n : Int) l (l.length : Int) (P.length : Int)) (if n + gone R y + gone y l = 1 then 0 else 1)
  | [], P, n, e, hn => by
    have hP : P.length = l.length := by rw [e, List.append_nil]
    refine Ev.step (fun k => rfl) ?_
    simp only [gafferref15_Next.l0]
    refine Ev.neg (by omega) ?_
    exact RNext_l1 l y hl hy y [] n rfl (by simp; omega)
  | x :: R, P, n, e, hn => by
    have hlen : l.length = P.length + (R.length + 1) := by rw [e, List.length_append, List.length_cons]
    have hr : rd l (P.length : Int) = x := by rw [e]; exact rd_app P x R
    have ih := fun n hn => RNext_l0 l y hl hy R (P ++ [x]) n (by rw [e, app_snoc]) hn
    rw [List.length_append, List.length_singleton] at ih
    refine Ev.step (fun k => rfl) ?_
    simp only [gafferref15_Next.l0]
    rw [hr, up1 (j := P.length) (by omega), up1 (j := n) (by omega)]
    refine Ev.pos (by omega) (Ev.pos (by omega) (Ev.pos (by omega) (Ev.bind (Has_ev y x (by omega)) ?_)))
    have hg : gone (x :: R) y = gone R y + (if (!decide (x ∈ y)) = true then 1 else 0) := cnt_cons _ _ _
    by_cases h : x ∈ y
    · rw [decide_eq_true h] at hg ⊢
      refine Ev.pos rfl ?_
      have := ih n (by omega)
      rwa [show n + gone R y = n + gone (x :: R) y by rw [hg]; simp] at this
    · rw [decide_eq_false h] at hg ⊢
      refine Ev.neg (by decide) ?_
      have := ih (n + 1) (by omega)
      rwa [show n + 1 + gone R y = n + gone (x :: R) y by rw [hg]; simp; omega] at this
theorem RNext_ev (l y : List Int) (hl : l.length < 2305843009213693952) (hy : y.length < 2305843009213693952) : Ev (fun k => gafferref15_Next.f k l y) (next l y) := by
  have hj : ∀ b, Ev (fun k => gafferref15_Next.j0 k l y b) (if b = true then 4 else if gone l y + gone y l = 1 then 0 else 1) := by
    intro b
    refine Ev.step (fun k => rfl) ?_
    simp only [gafferref15_Next.j0]
    cases b with
    | true => exact Ev.pos rfl (Ev.now _)
    | false =>
      refine Ev.neg (by decide) ?_
      have := RNext_l0 l y hl hy l [] 0 rfl (Nat.le_refl _)
      rwa [Nat.zero_add] at this
  unfold gafferref15_Next.f next
  refine Ev.bind (RMembers_ev l (by omega)) ?_
  by_cases h1 : memB 0 l = true
  · rw [if_pos h1]
    refine Ev.pos h1 (Ev.bind (RMembers_ev y (by omega)) ?_)
    have := hj (!memB 0 y)
    by_cases h2 : memB 0 y = true
    · rw [if_pos h2]; rw [h2] at this ⊢; exact this
    · rw [if_neg h2]; rw [Bool.not_eq_true] at h2; rw [h2] at this ⊢; exact this
  · rw [if_neg h1]
    exact Ev.neg h1 (hj true)
end Go.Proofs.Ytjlhohdfojkogaa.Qm
