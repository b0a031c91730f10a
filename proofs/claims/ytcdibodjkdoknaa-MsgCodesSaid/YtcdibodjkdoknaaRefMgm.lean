import Derived.Test.YtcdibodjkdoknaaPMx17
import Derived.Test.YtcdibodjkdoknaaPMx18
import Derived.Test.YtcdibodjkdoknaaSnIntsm
import Derived.Test.YtcdibodjkdoknaaSnCodem
import Derived.Test.YtcdibodjkdoknaaEnCodem
import Derived.Test.YtcdibodjkdoknaaRefEnm
import Derived.Test.YtcdibodjkdoknaaMgTakem
namespace Go.Proofs.Ytcdibodjkdoknaa.Mg
open Go.RowKit YtcdibodjkdoknaaW.PrintWords YtcdibodjkdoknaaW.PrintLast YtcdibodjkdoknaaW.PrintMore Ytcdibodjkdoknaa.PM Ba Sn
open Wl (decE REDecode_ev or_true_r)
set_option linter.unusedVariables false
set_option linter.unusedSimpArgs false

theorem or_zero (b : Bool) {n : Nat} (h : n = 0) : (b || (n != 0)) = b := by subst h; cases b <;> rfl
theorem or_more (b : Bool) {n : Nat} (h : n ≠ 0) : (b || (n != 0)) = true := by rw [bne_iff_ne.mpr h, or_true_r]
theorem BNumber_ev (l : List UInt8) (b : Bool) (hl : l.length ≤ 4611686018427387904) : Ev (fun k => gafferref09_Bag_Number.f k (ba l) b) (((numR l b).1 : Int), ba (numR l b).2.1, (numR l b).2.2) := by
  unfold gafferref09_Bag_Number.f
  refine Ev.bind (RTakeNumber_ev l hl) ?_
  show Ev (fun _ => if ((takeN l).2.2 : Int) = 0 then some (((takeN l).1 : Int), ba (takeN l).2.1, b) else some (((takeN l).1 : Int), ba (takeN l).2.1, true)) (((takeN l).1 : Int), ba (takeN l).2.1, (b || ((takeN l).2.2 != 0)))
  by_cases c : (takeN l).2.2 = 0
  · rw [or_zero b c]; exact Ev.pos (by omega) (Ev.now _)
  · rw [or_more b c]; exact Ev.neg (by omega) (Ev.now _)
theorem BText_ev (l : List UInt8) (b : Bool) (hl : l.length ≤ 4611686018427387904) : Ev (fun k => gafferref09_Bag_Text.f k (ba l) b) (ba (txtR l b).1, ba (txtR l b).2.1, (txtR l b).2.2) := by
  unfold gafferref09_Bag_Text.f
  refine Ev.bind (RTakeText_ev l hl) ?_
  show Ev (fun _ => if ((takeT l).2.2 : Int) = 0 then some (ba (takeT l).1, ba (takeT l).2.1, b) else some (ba (takeT l).1, ba (takeT l).2.1, true)) (ba (takeT l).1, ba (takeT l).2.1, (b || ((takeT l).2.2 != 0)))
  by_cases c : (takeT l).2.2 = 0
  · rw [or_zero b c]; exact Ev.pos (by omega) (Ev.now _)
  · rw [or_more b c]; exact Ev.neg (by omega) (Ev.now _)
theorem flagged_ev (l : List UInt8) (b : Bool) (hl : l.length ≤ 4611686018427387904) : Ev (fun k => gafferref13_flagged.f k (ba l) b) ((((numR l b).1 : Int) == 1), ba (numR l b).2.1, ((numR l b).2.2 || decide (((numR l b).1 : Int) > 1))) := by
  unfold gafferref13_flagged.f
  refine Ev.bind (BNumber_ev l b hl) ?_
  show Ev (fun _ => if ((numR l b).1 : Int) > 1 then some ((((numR l b).1 : Int) == 1), ba (numR l b).2.1, true) else some ((((numR l b).1 : Int) == 1), ba (numR l b).2.1, (numR l b).2.2)) _
  by_cases c : ((numR l b).1 : Int) > 1
  · rw [decide_eq_true c, or_true_r]; exact Ev.pos c (Ev.now _)
  · rw [decide_eq_false c, Bool.or_false]; exact Ev.neg c (Ev.now _)
theorem rmany_l0 (N : Nat) (hN : N ≤ 8) : ∀ (n i : Nat) (l : List UInt8) (b : Bool) (acc : List S67), i + n = N → acc.length + n ≤ 8 → l.length ≤ 4611686018427387903 → Ev (fun k => gafferref13_parts.l0 k (N : Int) (i : Int) (ba l) b acc) ((manyR n l b acc).1, ba (manyR n l b acc).2.1, (manyR n l b acc).2.2)
  | 0, i, l, b, acc, hi, _, hl => by
    refine Ev.step (fun k => rfl) ?_
    simp only [gafferref13_parts.l0]
    exact Ev.neg (by omega) (Ev.now _)
  | n + 1, i, l, b, acc, hi, ha, hl => by
    have hlen := entR_len l b
    have hin := txtR_in l b
    have hu : IntKind.u64.wrap ((i : Int) + 1) = ((i + 1 : Nat) : Int) := by rw [u64_id (by omega) (by omega)]; omega
    refine Ev.step (fun k => rfl) ?_
    simp only [gafferref13_parts.l0]
    rw [hu]
    refine Ev.pos (by omega) ?_
    rw [manyR]
    by_cases c : b = true
    · rw [if_pos c]; exact Ev.pos c (Ev.now _)
    · rw [if_neg c]
      refine Ev.neg c (Ev.pos (by omega) (Ev.bind (BText_ev l b (by omega)) (Ev.bind (REDecode_ev _ (by omega)) ?_)))
      exact rmany_l0 N hN n (i + 1) (entR l b).2.1 (entR l b).2.2 (acc ++ [(entR l b).1]) (by omega) (by rw [List.length_append, List.length_singleton]; omega) (by omega)
theorem rmany_bad (n : Nat) (l : List UInt8) (acc : List S67) : Ev (fun k => gafferref13_parts.l0 k (n : Int) 0 (ba l) true acc) (acc, ba l, true) := by
  refine Ev.step (fun k => rfl) ?_
  simp only [gafferref13_parts.l0]
  exact Ev.ite (fun _ => Ev.pos (by simp) (Ev.now _)) (fun _ => Ev.now _)
theorem rmany_ev (l : List UInt8) (b : Bool) (hl : l.length ≤ 4611686018427387903) : Ev (fun k => gafferref13_parts.l0 k ((numR l b).1 : Int) 0 (ba (numR l b).2.1) ((numR l b).2.2 || decide (((numR l b).1 : Int) > 8)) []) ((manyM l b).1, ba (manyM l b).2.1, (manyM l b).2.2) := by
  have := numR_len l b
  unfold manyM
  by_cases c : (numR l b).1 ≤ 8
  · rw [if_pos c, decide_eq_false (by omega), Bool.or_false]
    exact rmany_l0 _ c _ 0 _ _ [] (by omega) (by simpa using c) (by omega)
  · rw [if_neg c, decide_eq_true (by omega), or_true_r]
    exact rmany_bad _ _ _
theorem rparts_ev (q t : Int) (l : List UInt8) (b : Bool) (hl : l.length ≤ 4611686018427387903) : ∃ b2 : Bool, (0 < q ∧ q < 6 → b2 = (partsR q t l b).b) ∧ (¬ (0 < q ∧ q < 6) → b2 = true) ∧ Ev (fun k => gafferref13_parts.f k (ba l) b q t) { partsR q t l b with b := b2 }.tup := by
  have h1 := numR_len l b
  have hx := BNumber_ev l b (by omega)
  unfold gafferref13_parts.f partsR
  by_cases c1 : q = 1
  · subst c1
    refine ⟨_, fun _ => rfl, fun h => absurd (by omega) h, ?_⟩
    exact Ev.pos rfl (Ev.bind hx (Ev.bind (BNumber_ev _ _ (by omega)) (Ev.now _)))
  by_cases c2 : q = 2
  · subst c2
    refine ⟨_, fun _ => rfl, fun h => absurd (by omega) h, ?_⟩
    exact Ev.neg (by decide) (Ev.pos rfl (Ev.bind (flagged_ev l b (by omega)) (Ev.now _)))
  by_cases c3 : q = 3
  · subst c3
    refine ⟨_, fun _ => rfl, fun h => absurd (by omega) h, ?_⟩
    have h4 := numR_len (numR l b).2.1 (numR l b).2.2
    have h5 := numR_len (numR (numR l b).2.1 (numR l b).2.2).2.1 (numR (numR l b).2.1 (numR l b).2.2).2.2
    have h6 := numR_len (numR (numR (numR l b).2.1 (numR l b).2.2).2.1 (numR (numR l b).2.1 (numR l b).2.2).2.2).2.1 (numR (numR (numR l b).2.1 (numR l b).2.2).2.1 (numR (numR l b).2.1 (numR l b).2.2).2.2).2.2
    have e1 := BNumber_ev (numR l b).2.1 (numR l b).2.2 (by omega)
    have e2 := BNumber_ev (numR (numR l b).2.1 (numR l b).2.2).2.1 (numR (numR l b).2.1 (numR l b).2.2).2.2 (by omega)
    have e3 := BNumber_ev (numR (numR (numR l b).2.1 (numR l b).2.2).2.1 (numR (numR l b).2.1 (numR l b).2.2).2.2).2.1 (numR (numR (numR l b).2.1 (numR l b).2.2).2.1 (numR (numR l b).2.1 (numR l b).2.2).2.2).2.2 (by omega)
    have e4 := rmany_ev (numR (numR (numR l b).2.1 (numR l b).2.2).2.1 (numR (numR l b).2.1 (numR l b).2.2).2.2).2.1 (numR (numR (numR l b).2.1 (numR l b).2.2).2.1 (numR (numR l b).2.1 (numR l b).2.2).2.2).2.2 (by omega)
    exact Ev.neg (by decide) (Ev.neg (by decide) (Ev.pos rfl (Ev.bind hx (Ev.bind e1 (Ev.bind e2 (Ev.bind e3 (Ev.bind e4 (Ev.now _))))))))
  by_cases c4 : q = 4
  · subst c4
    refine ⟨_, fun _ => rfl, fun h => absurd (by omega) h, ?_⟩
    exact Ev.neg (by decide) (Ev.neg (by decide) (Ev.neg (by decide) (Ev.pos rfl (Ev.bind (flagged_ev l b (by omega)) (Ev.bind (BNumber_ev _ _ (by omega)) (Ev.now _))))))
  by_cases c5 : q = 5
  · subst c5
    have := txtR_in l b
    refine ⟨_, fun _ => rfl, fun h => absurd (by omega) h, ?_⟩
    exact Ev.neg (by decide) (Ev.neg (by decide) (Ev.neg (by decide) (Ev.neg (by decide) (Ev.pos rfl (Ev.bind (BText_ev l b (by omega)) (Ev.bind (RDecode_ev _ (by omega)) (Ev.now _)))))))
  · refine ⟨true, fun h => by omega, fun _ => rfl, ?_⟩
    rw [if_neg c1, if_neg c2, if_neg c3, if_neg c4, if_neg c5]
    exact Ev.neg c1 (Ev.neg c2 (Ev.neg c3 (Ev.neg c4 (Ev.neg c5 (Ev.now _)))))
end Go.Proofs.Ytcdibodjkdoknaa.Mg
