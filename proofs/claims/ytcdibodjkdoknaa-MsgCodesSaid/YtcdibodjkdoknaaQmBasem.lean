import Derived.Test.YtcdibodjkdoknaaPMx2
import Derived.Test.YtcdibodjkdoknaaBam
import Derived.Test.YtcdibodjkdoknaaSh
namespace Go.Proofs.Ytcdibodjkdoknaa.Qm
open Go.RowKit YtcdibodjkdoknaaW.PrintWords YtcdibodjkdoknaaW.PrintLast YtcdibodjkdoknaaW.PrintMore Ytcdibodjkdoknaa.PM Ba Sh
set_option linter.unusedVariables false

theorem up1 {j : Nat} (hb : j < 4611686018427387904) : wrap64 ((j : Int) + 1) = ((j + 1 : Nat) : Int) := by rw [wrap64_id (by omega) (by omega)]; omega
theorem down1 {j : Nat} (h : 0 < j) (hb : j < 4611686018427387904) : wrap64 ((j : Int) - 1) = ((j - 1 : Nat) : Int) := by rw [wrap64_id (by omega) (by omega)]; omega
theorem rd_app (P : List Int) (x : Int) (R : List Int) : rd (P ++ x :: R) (P.length : Int) = x := by
  unfold rd
  rw [Int.toNat_natCast, List.getD_eq_getElem?_getD, List.getElem?_append_right (Nat.le_refl _), Nat.sub_self]
  rfl
theorem app_snoc (P : List Int) (x : Int) (R : List Int) : P ++ x :: R = (P ++ [x]) ++ R := by rw [List.append_assoc]; rfl

/-! one of some -/
def memB (p : Int) : List Int → Bool
  | [] => decide (p > 0)
  | x :: r => if x ≤ p then false else if x > 7 then false else memB x r
theorem Members_l0 (l : List Int) (hl : l.length < 4611686018427387904) : ∀ (R P : List Int) (p : Int), l = P ++ R → Ev (fun k => wal_Members.l0 k p l (l.length : Int) (P.length : Int)) (memB p R)
  | [], P, p, e => by
    refine Ev.step (fun k => rfl) ?_
    simp only [wal_Members.l0]
    exact Ev.neg (by rw [e, List.append_nil]; omega) (Ev.now _)
  | x :: R, P, p, e => by
    have hlen : l.length = P.length + (R.length + 1) := by rw [e, List.length_append, List.length_cons]
    have hr : rd l (P.length : Int) = x := by rw [e]; exact rd_app P x R
    have ih := Members_l0 l hl R (P ++ [x]) x (by rw [e, app_snoc])
    rw [List.length_append, List.length_singleton] at ih
    refine Ev.step (fun k => rfl) ?_
    simp only [wal_Members.l0]
    rw [hr, up1 (by omega), memB]
    refine Ev.pos (by omega) (Ev.pos (by omega) (Ev.pos (by omega) ?_))
    by_cases h1 : x ≤ p
    · rw [if_pos h1]; exact Ev.pos h1 (Ev.now _)
    · rw [if_neg h1]
      refine Ev.neg h1 ?_
      by_cases h2 : x > 7
      · rw [if_pos h2]; exact Ev.pos h2 (Ev.now _)
      · rw [if_neg h2]; exact Ev.neg h2 ih
theorem Members_ev (l : List Int) (hl : l.length < 4611686018427387904) : Ev (fun k => wal_Members.f k l) (memB 0 l) := Members_l0 l hl l [] 0 rfl

/-! counts -/
def cnt (p : Int → Bool) (l : List Int) : Nat := (l.filter p).length
def gone (l y : List Int) : Nat := cnt (fun m => !decide (m ∈ y)) l
def has (l y : List Int) : Nat := cnt (fun m => decide (m ∈ y)) l
def most (l y : List Int) : Bool := memB 0 l && decide (2 * has l y > l.length)
def next (l y : List Int) : Int := if memB 0 l = true then (if memB 0 y = true then (if gone l y + gone y l = 1 then 0 else 1) else 4) else 4
end Go.Proofs.Ytcdibodjkdoknaa.Qm
