/- Two snapshots are one, or not: the document's own question. No condition of its own. -/
import Derived.Test.YtpigjmjbfpipnaaPEx4
import Derived.Test.YtpigjmjbfpipnaaSnIntse
namespace Go.Proofs.Ytpigjmjbfpipnaa.Sn
open Go.RowKit Go.Proofs.YtpigjmjbfpipnaaW.PrintWords Go.Proofs.YtpigjmjbfpipnaaW.PrintLast Go.Proofs.YtpigjmjbfpipnaaW.PrintMore Go.Proofs.Ytpigjmjbfpipnaa.PE Go.Proofs.Ytpigjmjbfpipnaa.Ba
set_option linter.unusedVariables false

theorem SameInts_l1 (a b : List Int) (hab : b.length = a.length) (hl : a.length < 4611686018427387904) : ∀ (m j : Nat), j + m = a.length → Ev (fun k => gafferref03_SameInts.l0 k a b (a.length : Int) (j : Int)) (decide (a.drop j = b.drop j))
  | 0, j, hj => by
    refine Ev.step (fun k => rfl) ?_
    simp only [gafferref03_SameInts.l0]
    rw [List.drop_eq_nil_of_le (by omega), List.drop_eq_nil_of_le (by omega)]
    exact Ev.neg (by omega) (Ev.now _)
  | m + 1, j, hj => by
    have h1 : j < a.length := by omega
    have h2 : j < b.length := by omega
    have e1 : rd a (j : Int) = a[j] := by unfold rd; rw [Int.toNat_natCast, List.getD_eq_getElem?_getD, List.getElem?_eq_getElem h1]; rfl
    have e2 : rd b (j : Int) = b[j] := by unfold rd; rw [Int.toNat_natCast, List.getD_eq_getElem?_getD, List.getElem?_eq_getElem h2]; rfl
    refine Ev.step (fun k => rfl) ?_
    simp only [gafferref03_SameInts.l0]
    rw [up1 (by omega), e1, e2, List.drop_eq_getElem_cons h1, List.drop_eq_getElem_cons h2]
    refine Ev.pos (by omega) (Ev.pos (by omega) (Ev.pos (by omega) (Ev.pos (by omega) ?_)))
    by_cases c : a[j] = b[j]
    · have := SameInts_l1 a b hab hl m (j + 1) (by omega)
      rw [show decide (a[j] :: a.drop (j + 1) = b[j] :: b.drop (j + 1)) = decide (a.drop (j + 1) = b.drop (j + 1)) from decide_eq_decide.mpr ⟨fun h => (List.cons.inj h).2, fun h => by rw [c, h]⟩]
      exact Ev.pos c this
    · rw [decide_eq_false (by intro h; exact c (List.cons.inj h).1)]
      exact Ev.neg c (Ev.now _)
theorem SameInts_any (a b : List Int) (hl : a.length < 4611686018427387904) : Ev (fun k => gafferref03_SameInts.f k a b) (decide (a = b)) := by
  unfold gafferref03_SameInts.f
  by_cases c : a.length = b.length
  · exact Ev.pos (by omega) (SameInts_l1 a b c.symm hl a.length 0 (by omega))
  · rw [decide_eq_false (fun h => c (by rw [h]))]
    exact Ev.neg (by omega) (Ev.now _)
theorem SameS_any (i t : Int) (a : List Int) (c : ByteArray) (i' t' : Int) (a' : List Int) (c' : ByteArray) (hl : a.length < 4611686018427387904) : Ev (fun k => gafferref05_Same.f k i t a c i' t' a' c') (decide (i = i' ∧ t = t' ∧ c.toList = c'.toList ∧ a = a')) := by
  unfold gafferref05_Same.f
  by_cases h1 : i = i'
  · refine Ev.pos h1 ?_
    by_cases h2 : t = t'
    · refine Ev.pos h2 ?_
      by_cases h3 : c.toList = c'.toList
      · refine Ev.pos h3 (Ev.bind (SameInts_any a a' hl) ?_)
        rw [show decide (i = i' ∧ t = t' ∧ c.toList = c'.toList ∧ a = a') = decide (a = a') from decide_eq_decide.mpr ⟨fun h => h.2.2.2, fun h => ⟨h1, h2, h3, h⟩⟩]
        exact Ev.now _
      · rw [decide_eq_false (fun h => h3 h.2.2.1)]
        exact Ev.neg h3 (Ev.now _)
    · rw [decide_eq_false (fun h => h2 h.2.1)]
      exact Ev.neg h2 (Ev.now _)
  · rw [decide_eq_false (fun h => h1 h.1)]
    exact Ev.neg h1 (Ev.now _)
end Go.Proofs.Ytpigjmjbfpipnaa.Sn
