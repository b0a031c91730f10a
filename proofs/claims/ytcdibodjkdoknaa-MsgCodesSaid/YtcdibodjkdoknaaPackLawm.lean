import Derived.Test.YtcdibodjkdoknaaPackTakem
namespace Go.Proofs.Ytcdibodjkdoknaa.Ba
open Go.RowKit YtcdibodjkdoknaaW.PrintWords YtcdibodjkdoknaaW.PrintLast YtcdibodjkdoknaaW.PrintMore
set_option linter.unusedVariables false

theorem nl_toNat (n : Nat) : (UInt8.ofNat (nl n)).toNat = nl n := ofNat_toNat _ (by have := nl_le n; omega)
theorem less_val : ∀ l m : List UInt8, l.length = m.length → Op.bytesLess l m = decide (val l < val m)
  | [], [], _ => by simp [Op.bytesLess]
  | a :: l, b :: m, h => by
    have hl : l.length = m.length := by simpa using h
    have ih := less_val l m hl
    have v1 := val_lt l; have v2 := val_lt m
    rw [hl] at v1
    have hp : 0 < 256 ^ m.length := Nat.pow_pos (by decide)
    rw [Op.bytesLess, ih, val_cons, val_cons, hl, Bool.eq_iff_iff]
    simp only [Bool.or_eq_true, Bool.and_eq_true, decide_eq_true_eq, beq_iff_eq, UInt8.lt_iff_toNat_lt]
    rcases Nat.lt_trichotomy a.toNat b.toNat with hab | hab | hab
    · have : a.toNat * 256 ^ m.length + 256 ^ m.length ≤ b.toNat * 256 ^ m.length := by
        have := Nat.mul_le_mul_right (256 ^ m.length) (show a.toNat + 1 ≤ b.toNat from hab)
        rwa [Nat.add_mul, Nat.one_mul] at this
      exact ⟨fun _ => by omega, fun _ => .inl hab⟩
    · have e : a = b := UInt8.toNat_inj.mp hab
      subst e
      exact ⟨fun h => by rcases h with h | h; omega; omega, fun h => .inr ⟨rfl, by omega⟩⟩
    · have : b.toNat * 256 ^ m.length + 256 ^ m.length ≤ a.toNat * 256 ^ m.length := by
        have := Nat.mul_le_mul_right (256 ^ m.length) (show b.toNat + 1 ≤ a.toNat from hab)
        rwa [Nat.add_mul, Nat.one_mul] at this
      exact ⟨fun h => by rcases h with h | ⟨h, _⟩; omega; subst h; omega, fun h => by omega⟩
theorem nl_mono (a b : Nat) (ha : a < 18446744073709551616) (hb : b < 18446744073709551616) (h : nl a < nl b) : a < b := by
  have h1 := nl_bound a ha
  have h2 := nl_low b (by rintro rfl; rw [nl_zero] at h; omega) hb
  have := Nat.pow_le_pow_right (n := 256) (by decide) (show nl a ≤ nl b - 1 by omega)
  omega
theorem order (a b : Nat) (ha : a < 18446744073709551616) (hb : b < 18446744073709551616) : Op.bytesLess (numL a) (numL b) = decide (a < b) := by
  unfold numL
  rw [Op.bytesLess, Bool.eq_iff_iff]
  simp only [Bool.or_eq_true, Bool.and_eq_true, decide_eq_true_eq, beq_iff_eq, UInt8.lt_iff_toNat_lt, nl_toNat]
  rcases Nat.lt_trichotomy (nl a) (nl b) with h | h | h
  · exact ⟨fun _ => nl_mono a b ha hb h, fun _ => .inl h⟩
  · rw [less_val _ _ (by rw [be_length, be_length, h]), val_be_nl a ha, val_be_nl b hb, decide_eq_true_eq]
    exact ⟨fun hh => by rcases hh with hh | hh; omega; exact hh.2, fun hh => .inr ⟨by rw [h], hh⟩⟩
  · have := nl_mono b a hb ha h
    refine ⟨fun hh => ?_, fun hh => by omega⟩
    rcases hh with hh | ⟨hh, _⟩
    · omega
    · have := congrArg UInt8.toNat hh; rw [nl_toNat, nl_toNat] at this; omega
theorem nat_of_u64 {n : Int} (h : (Lit.int .u64 n).wf = true) : ∃ m : Nat, n = m ∧ m < 18446744073709551616 := by
  simp only [Lit.wf, IntKind.min, IntKind.max, IntKind.signed, IntKind.bits, Bool.and_eq_true] at h
  refine ⟨n.toNat, ?_, ?_⟩ <;> simp at h <;> omega
end Go.Proofs.Ytcdibodjkdoknaa.Ba
