/- What the checks come to. No condition beside those in each row. -/
import Derived.Test.YtpigjmjbfpipnaaPEx2
import Derived.Test.YtpigjmjbfpipnaaDkListe
namespace Go.Proofs.Ytpigjmjbfpipnaa.Dk
open Go.RowKit Go.Proofs.YtpigjmjbfpipnaaW.PrintWords Go.Proofs.YtpigjmjbfpipnaaW.PrintLast Go.Proofs.YtpigjmjbfpipnaaW.PrintMore Go.Proofs.Ytpigjmjbfpipnaa.PE Go.Proofs.Ytpigjmjbfpipnaa.Ba Go.Proofs.Ytpigjmjbfpipnaa.Sh
set_option linter.unusedVariables false
attribute [local instance 10] Classical.propDecidable

theorem Check_l0 (l : List S71) (d : Bool) (f : Int) (hl : l.length < 4611686018427387904) : ∀ (m j : Nat) (b : Bool), j + m = l.length →
    Ev (fun k => disk_Check.l0 k b l (l.length : Int) (j : Int) l d f) (res (b = true ∧ (∀ i, j ≤ i → i < l.length → stepOk l i) ∧ l.length ≤ 4096))
  | 0, j, b, hj => by
    refine Ev.step (fun k => rfl) ?_
    simp only [disk_Check.l0]
    refine Ev.neg (by omega) ?_
    by_cases hb : b = true
    · refine Ev.pos hb ?_
      have hv : ∀ i, j ≤ i → i < l.length → stepOk l i := fun i h1 h2 => by omega
      by_cases h4 : l.length ≤ 4096
      · rw [res_pos ⟨hb, hv, h4⟩]
        exact Ev.neg (by omega) (Ev.now _)
      · rw [res_neg (fun h => h4 h.2.2)]
        exact Ev.pos (by omega) (Ev.now _)
    · rw [res_neg (fun h => hb h.1)]
      exact Ev.neg hb (Ev.now _)
  | m + 1, j, b, hj => by
    have ih := fun b => Check_l0 l d f hl m (j + 1) b (by omega)
    have hsp : ∀ b', (b = true ∧ stepOk l j ↔ b' = true) → (res (b' = true ∧ (∀ i, j + 1 ≤ i → i < l.length → stepOk l i) ∧ l.length ≤ 4096)) = (res (b = true ∧ (∀ i, j ≤ i → i < l.length → stepOk l i) ∧ l.length ≤ 4096)) := by
      intro b' hb'
      by_cases h : b' = true ∧ (∀ i, j + 1 ≤ i → i < l.length → stepOk l i) ∧ l.length ≤ 4096
      · rw [res_pos h, res_pos]
        obtain ⟨h1, h2⟩ := hb'.2 h.1
        refine ⟨h1, fun i hi hi2 => ?_, h.2.2⟩
        rcases Nat.eq_or_lt_of_le hi with rfl | hi
        · exact h2
        · exact h.2.1 i hi hi2
      · rw [res_neg h, res_neg]
        intro h2
        exact h ⟨hb'.1 ⟨h2.1, h2.2.1 j (Nat.le_refl _) (by omega)⟩, fun i hi => h2.2.1 i (by omega), h2.2.2⟩
    refine Ev.step (fun k => rfl) ?_
    simp only [disk_Check.l0]
    refine Ev.pos (by omega) (Ev.pos (by omega) (Ev.pos (by omega) ?_))
    rw [wrap_add1 (by omega), rd_nat]
    by_cases hb : b = true
    · refine Ev.pos hb ?_
      have last : stepOk l j ↔ (j = 0 ∨ blt (nm (l.getD (j - 1) z71)) (nm (l.getD j z71))) ∧ (0 ≤ (l.getD j z71).f2 ∧ (l.getD j z71).f2 ≤ ((l.getD j z71).f1.size : Int)) := Iff.rfl
      by_cases h0 : j = 0
      · subst h0
        refine Ev.pos rfl ?_
        by_cases h2 : (l.getD 0 z71).f2 ≥ 0
        · refine Ev.pos h2 ?_
          rw [← hsp _ (by rw [last]; exact ⟨fun h => decide_eq_true h.2.2.2, fun h => ⟨hb, .inl rfl, h2, of_decide_eq_true h⟩⟩)]
          exact ih _
        · refine Ev.neg h2 ?_
          rw [← hsp false (by rw [last]; exact ⟨fun h => absurd h.2.2.1 h2, fun h => by cases h⟩)]
          exact ih _
      · refine Ev.neg (by omega) (Ev.pos (by rw [wrap_sub1 (by omega) (by omega)]; omega) (Ev.pos (by rw [wrap_sub1 (by omega) (by omega)]; omega) ?_))
        rw [wrap_sub1 (by omega) (by omega), rd_nat]
        by_cases h1 : blt (nm (l.getD (j - 1) z71)) (nm (l.getD j z71))
        · refine Ev.pos h1 ?_
          by_cases h2 : (l.getD j z71).f2 ≥ 0
          · refine Ev.pos h2 ?_
            rw [← hsp _ (by rw [last]; exact ⟨fun h => decide_eq_true h.2.2.2, fun h => ⟨hb, .inr h1, h2, of_decide_eq_true h⟩⟩)]
            exact ih _
          · refine Ev.neg h2 ?_
            rw [← hsp false (by rw [last]; exact ⟨fun h => absurd h.2.2.1 h2, fun h => by cases h⟩)]
            exact ih _
        · refine Ev.neg h1 ?_
          rw [← hsp false (by rw [last]; exact ⟨fun h => (h.2.1.elim (fun e => absurd e h0) (fun e => absurd e h1)), fun h => by cases h⟩)]
          exact ih _
    · refine Ev.neg hb ?_
      rw [← hsp false ⟨fun h => absurd h.1 hb, fun h => by cases h⟩]
      exact ih _
theorem Check_ev (l : List S71) (d : Bool) (f : Int) (hl : l.length < 4611686018427387904) : Ev (fun k => disk_Check.f k l d f) (res (Good l)) := by
  unfold disk_Check.f
  have h := Check_l0 l d f hl l.length 0 true (by omega)
  have e : (res (true = true ∧ (∀ i, 0 ≤ i → i < l.length → stepOk l i) ∧ l.length ≤ 4096)) = (res (Good l)) := by
    by_cases hg : Good l
    · rw [res_pos hg, res_pos ⟨rfl, fun i _ h => hg.1 i h, hg.2⟩]
    · rw [res_neg hg, res_neg (fun h => hg ⟨fun i h2 => h.2.1 i (Nat.zero_le _) h2, h.2.2⟩)]
  rw [← e]
  exact h
end Go.Proofs.Ytpigjmjbfpipnaa.Dk
