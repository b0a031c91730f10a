/- Who are a majority are one with others, too: while the others are not too many. No condition beside those in each row. -/
import Derived.Test.YtjlhohdfojkogaaPAx9
import Derived.Test.YtjlhohdfojkogaaQmBase
namespace Go.Proofs.Ytjlhohdfojkogaa.Qm
open Go.RowKit Go.Proofs.YtjlhohdfojkogaaW.PrintWords Go.Proofs.YtjlhohdfojkogaaW.PrintLast Go.Proofs.YtjlhohdfojkogaaW.PrintMore Go.Proofs.Ytjlhohdfojkogaa.PA Go.Proofs.Ytjlhohdfojkogaa.Ba Go.Proofs.Ytjlhohdfojkogaa.Sh
set_option linter.unusedVariables false

theorem has_more (l a b : List Int) : has l a ≤ has l (a ++ b) := by
  unfold has cnt
  rw [← List.countP_eq_length_filter, ← List.countP_eq_length_filter]
  exact List.countP_mono_left (fun x hx hd => by rw [decide_eq_true_eq] at hd ⊢; exact List.mem_append_left _ hd)
theorem has_take {l : List Int} (h : l.Nodup) {n : Nat} (hn : n ≤ l.length) : has l (l.take n) = n := by
  have e : l = l.take n ++ l.drop n := (List.take_append_drop n l).symm
  obtain ⟨A, hA⟩ : ∃ A, A = l.take n := ⟨_, rfl⟩
  obtain ⟨B, hB⟩ : ∃ B, B = l.drop n := ⟨_, rfl⟩
  have hl : A.length = n := by rw [hA, List.length_take]; omega
  rw [← hA]
  rw [← hA, ← hB] at e
  rw [e] at h ⊢
  obtain ⟨_, _, h3⟩ := List.nodup_append.1 h
  unfold has cnt
  rw [List.filter_append, List.filter_eq_self.2 (fun x hx => by simpa using hx), List.filter_eq_nil_iff.2 (fun x hx => ?_), List.append_nil, hl]
  rw [decide_eq_true_eq]
  exact fun h4 => h3 x h4 x hx rfl
theorem More_under (l a b : List Int) (hl : l.length * 8 ≤ 140737488351232) (ha : a.length * 8 ≤ 140737488351232) (hab : a.length + b.length < 17592186044416) : ∃ k, gafferlaw15_QuorumMore.f k l a b = some true := by
  refine Ev.rounds (g := fun k => gafferlaw15_QuorumMore.f k l a b) ?_
  unfold gafferlaw15_QuorumMore.f
  refine Ev.bind most_ev (Ev.pos rfl (Ev.bind settled_ev (Ev.step (fun k => rfl) ?_)))
  simp only [gafferlaw15_QuorumMore.j0]
  refine Ev.neg (by decide) (Ev.bind_const (Ev.pos (by rw [List.length_nil]; omega) (Ev.bind_const ?_)))
  rw [List.nil_append]
  have tail : Ev (fun k => gafferlaw15_QuorumMore.j1 k l false) true := by
    refine Ev.step (fun k => rfl) ?_
    simp only [gafferlaw15_QuorumMore.j1]
    refine Ev.neg (by decide) (Ev.bind (Most_ev l l (by omega) (by omega)) ?_)
    by_cases hm : memB 0 l = true
    · have hnd : l.Nodup := (memB_rise l 0 hm).2.imp (fun hab e => by omega)
      have h0 : 0 < l.length := by
        cases l with
        | nil => rw [memB] at hm; exact absurd hm (by decide)
        | cons x r => simp
      have h7 : l.length ≤ 7 := by have := memB_len l 0 hm (by omega); omega
      have key : ∀ n, n ≤ l.length → most l (l.take n) = decide (2 * n > l.length) := by
        intro n hn
        unfold most
        rw [hm, has_take hnd hn, Bool.true_and]
      have hall : most l l = true := by
        have := key l.length (Nat.le_refl _)
        rw [List.take_length] at this
        rw [this, decide_eq_true_eq]; omega
      have hw : wrap64 ((l.length : Int) / 2) = ((l.length / 2 : Nat) : Int) := by rw [wrap64_id (by omega) (by omega)]; omega
      have hw2 : wrap64 (((l.length / 2 : Nat) : Int) + 1) = ((l.length / 2 + 1 : Nat) : Int) := by rw [wrap64_id (by omega) (by omega)]; omega
      rw [hw, hw2, Int.toNat_natCast, Int.toNat_natCast]
      have hM1 := Most_ev l (l.take (l.length / 2)) (by omega) (by rw [List.length_take]; omega)
      have hM2 := Most_ev l (l.take (l.length / 2 + 1)) (by omega) (by rw [List.length_take]; omega)
      rw [key _ (by omega), decide_eq_false (by omega)] at hM1
      rw [key _ (by omega), decide_eq_true (by omega)] at hM2
      exact Ev.pos hall (Ev.pos (by omega) (Ev.pos (by omega) (Ev.bind hM1 (Ev.neg (by decide) (Ev.pos (by omega) (Ev.pos (by omega) (Ev.bind hM2 (Ev.now _))))))))
    · have : ¬ most l l = true := by
        unfold most
        rw [Bool.not_eq_true] at hm
        rw [hm]; simp
      exact Ev.neg this (Ev.now _)
  refine Ev.pos (by omega) (Ev.bind (Most_ev l a (by omega) (by omega)) ?_)
  by_cases h1 : most l a = true
  · refine Ev.pos h1 (Ev.bind (Most_ev l (a ++ b) (by omega) (by rw [List.length_append]; omega)) ?_)
    have h2 : most l (a ++ b) = true := by
      unfold most at h1 ⊢
      rw [Bool.and_eq_true, decide_eq_true_eq] at h1 ⊢
      have := has_more l a b
      exact ⟨h1.1, by omega⟩
    rw [h2]
    exact tail
  · exact Ev.neg h1 tail
end Go.Proofs.Ytjlhohdfojkogaa.Qm
