import Derived.Test.YtcdibodjkdoknaaPackLawm
namespace Go.Proofs.Ytcdibodjkdoknaa.Ba
open Go.RowKit YtcdibodjkdoknaaW.PrintWords YtcdibodjkdoknaaW.PrintLast YtcdibodjkdoknaaW.PrintMore
set_option linter.unusedVariables false

theorem nl_of {n k : Nat} (hn : n < 18446744073709551616) (hk : k ≠ 0) (h1 : 256 ^ (k - 1) ≤ n) (h2 : n < 256 ^ k) : nl n = k := by
  have h0 : n ≠ 0 := by
    have := Nat.pow_pos (n := k - 1) (show 0 < 256 by decide)
    omega
  have hb := nl_bound n hn
  have hl := nl_low n h0 hn
  have hp := nl_pos n h0
  rcases Nat.lt_trichotomy (nl n) k with h | h | h
  · have := Nat.pow_le_pow_right (show 0 < 256 by decide) (show nl n ≤ k - 1 by omega)
    omega
  · exact h
  · have := Nat.pow_le_pow_right (show 0 < 256 by decide) (show k ≤ nl n - 1 by omega)
    omega
theorem takeN_inv {l : List UInt8} {n : Nat} {r : List UInt8} (h : takeN l = (n, r, 0)) : l = numL n ++ r := by
  cases l with
  | nil => simp [takeN] at h
  | cons b s =>
    rw [takeN] at h
    by_cases c1 : 8 < b.toNat
    · rw [if_pos c1] at h; simp at h
    · rw [if_neg c1] at h
      by_cases c2 : 0 < b.toNat ∧ s ≠ [] ∧ s.getD 0 0 = 0
      · rw [if_pos c2] at h; simp at h
      · rw [if_neg c2] at h
        by_cases c3 : s.length < b.toNat
        · rw [if_pos c3] at h; simp at h
        · rw [if_neg c3] at h
          obtain ⟨e1, h2⟩ := Prod.mk.inj h
          obtain ⟨e2, _⟩ := Prod.mk.inj h2
          subst e1
          subst e2
          have hlen : (s.take b.toNat).length = b.toNat := by rw [List.length_take]; omega
          have hv := val_lt (s.take b.toNat)
          rw [hlen] at hv
          have hn : val (s.take b.toNat) < 18446744073709551616 := Nat.lt_of_lt_of_le hv (Nat.le_trans (Nat.pow_le_pow_right (by decide) (show b.toNat ≤ 8 by omega)) (by decide))
          have hnl : nl (val (s.take b.toNat)) = b.toNat := by
            by_cases c0 : b.toNat = 0
            · rw [c0]; rfl
            · refine nl_of hn c0 ?_ hv
              obtain ⟨k, hk⟩ : ∃ k, b.toNat = k + 1 := ⟨b.toNat - 1, by omega⟩
              cases s with
              | nil => simp at c3; omega
              | cons a s =>
                have ha : a ≠ 0 := fun e => c2 ⟨by omega, by simp, by simp [e]⟩
                have ha1 : 1 ≤ a.toNat := by
                  rcases Nat.eq_zero_or_pos a.toNat with h | h
                  · exact absurd ((zero_toNat a).1 h) ha
                  · exact h
                rw [hk, List.take_succ_cons, val_cons]
                have hk2 : (s.take k).length = k := by rw [List.length_take]; simp at c3; omega
                rw [hk2, Nat.add_sub_cancel]
                have := Nat.mul_le_mul_right (256 ^ k) ha1
                omega
          have hbe : be b.toNat (val (s.take b.toNat)) = s.take b.toNat := by
            have := be_val (s.take b.toNat)
            rwa [hlen] at this
          show b :: s = (UInt8.ofNat (nl (val (s.take b.toNat))) :: be (nl (val (s.take b.toNat))) (val (s.take b.toNat))) ++ s.drop b.toNat
          rw [hnl, hbe, UInt8.ofNat_toNat, List.cons_append, List.take_append_drop]
theorem takeT_inv {l t r : List UInt8} (h : takeT l = (t, r, 0)) : l = textL t ++ r ∧ t.length ≤ 65536 := by
  unfold takeT at h
  by_cases c1 : (takeN l).2.2 = 0
  · rw [if_pos c1] at h
    by_cases c2 : 65536 < (takeN l).1
    · rw [if_pos c2] at h; simp at h
    · rw [if_neg c2] at h
      by_cases c3 : (takeN l).2.1.length < (takeN l).1
      · rw [if_pos c3] at h; simp at h
      · rw [if_neg c3] at h
        obtain ⟨e1, h2⟩ := Prod.mk.inj h
        obtain ⟨e2, _⟩ := Prod.mk.inj h2
        subst e1
        subst e2
        have e : takeN l = ((takeN l).1, (takeN l).2.1, 0) := by rw [← c1]
        have hi := takeN_inv e
        have hl : ((takeN l).2.1.take (takeN l).1).length = (takeN l).1 := by rw [List.length_take]; omega
        refine ⟨?_, by rw [hl]; omega⟩
        unfold textL
        rw [hl, List.append_assoc, List.take_append_drop]
        exact hi
  · rw [if_neg c1] at h
    have := (Prod.mk.inj (Prod.mk.inj h).2).2
    exact absurd this (by first | exact c1 | simpa using c1)
end Go.Proofs.Ytcdibodjkdoknaa.Ba
