import Derived.Test.YtcdibodjkdoknaaPMx7
import Derived.Test.YtcdibodjkdoknaaQmBasem
namespace Go.Proofs.Ytcdibodjkdoknaa.Qm
open Go.RowKit YtcdibodjkdoknaaW.PrintWords YtcdibodjkdoknaaW.PrintLast YtcdibodjkdoknaaW.PrintMore Ytcdibodjkdoknaa.PM Ba Sh
set_option linter.unusedVariables false

def lst (P : List Int) : Int := P.getLast?.getD 0
theorem lst_snoc (P : List Int) (x : Int) : lst (P ++ [x]) = x := by simp [lst]
theorem rd_last {l P R : List Int} {q : Int} (e : l = (P ++ [q]) ++ R) : rd l (((P ++ [q]).length - 1 : Nat) : Int) = q := by
  have : (P ++ [q]).length - 1 = P.length := by simp
  rw [this, e, List.append_assoc]
  exact rd_app P q R
theorem RMembers_l0 (l : List Int) (hl : l.length < 4611686018427387904) : ∀ (R P : List Int), l = P ++ R → (P ≠ [] → 1 ≤ lst P) → Ev (fun k => gafferref03_Members.l0 k l l (l.length : Int) (P.length : Int)) (memB (lst P) R)
  | [], P, e, hp => by
    refine Ev.step (fun k => rfl) ?_
    simp only [gafferref03_Members.l0]
    refine Ev.neg (by rw [e, List.append_nil]; omega) ?_
    rw [show decide ((l.length : Int) > 0) = memB (lst P) [] by
      rw [memB, Bool.eq_iff_iff, decide_eq_true_eq, decide_eq_true_eq, e, List.append_nil]
      cases P with
      | nil => simp [lst]
      | cons a b => have := hp (by simp); constructor <;> intro _ <;> simp <;> omega]
    exact Ev.now _
  | x :: R, P, e, hp => by
    have hlen : l.length = P.length + (R.length + 1) := by rw [e, List.length_append, List.length_cons]
    have hr : rd l (P.length : Int) = x := by rw [e]; exact rd_app P x R
    have ih := fun h => RMembers_l0 l hl R (P ++ [x]) (by rw [e, app_snoc]) h
    rw [List.length_append, List.length_singleton, lst_snoc] at ih
    refine Ev.step (fun k => rfl) ?_
    simp only [gafferref03_Members.l0]
    rw [hr, memB]
    refine Ev.pos (by omega) (Ev.pos (by omega) (Ev.pos (by omega) ?_))
    by_cases h1 : x < 1
    · have : x ≤ lst P := by
        rcases List.eq_nil_or_concat P with rfl | ⟨Q, q, rfl⟩
        · show x ≤ 0; omega
        · have := hp (by simp); omega
      rw [if_pos this]
      exact Ev.pos h1 (Ev.now _)
    · refine Ev.neg h1 ?_
      by_cases h2 : x > 7
      · rw [if_pos h2]
        have : (if x ≤ lst P then false else false) = false := by split <;> rfl
        rw [this]
        exact Ev.pos h2 (Ev.now _)
      · rw [if_neg h2]
        refine Ev.neg h2 ?_
        rw [up1 (by omega)]
        rcases List.eq_nil_or_concat P with rfl | ⟨Q, q, rfl⟩
        · rw [if_neg (show ¬ x ≤ lst [] by show ¬ x ≤ 0; omega)]
          exact Ev.neg (by simp) (ih (fun _ => by omega))
        · rw [List.concat_eq_append] at *
          have hq : lst (Q ++ [q]) = q := lst_snoc Q q
          have hP : 0 < (Q ++ [q]).length := by simp
          have hlast : rd l (((Q ++ [q]).length - 1 : Nat) : Int) = q := rd_last e
          rw [hq, down1 hP (by omega), hlast]
          refine Ev.pos (by omega) (Ev.pos (by omega) (Ev.pos (by omega) ?_))
          by_cases h3 : x ≤ q
          · rw [if_pos h3]; exact Ev.pos h3 (Ev.now _)
          · rw [if_neg h3]; exact Ev.neg h3 (ih (fun _ => by omega))
theorem RMembers_ev (l : List Int) (hl : l.length < 4611686018427387904) : Ev (fun k => gafferref03_Members.f k l) (memB 0 l) := RMembers_l0 l hl l [] rfl (fun h => absurd rfl h)
end Go.Proofs.Ytcdibodjkdoknaa.Qm
