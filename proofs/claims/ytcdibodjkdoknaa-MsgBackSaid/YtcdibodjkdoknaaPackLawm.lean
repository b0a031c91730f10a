/- What follows of the bytes of numbers, texts and frames: there and back, cut short, in order. Lists of bytes alone, no program. -/
import Derived.Test.YtcdibodjkdoknaaPackTakem
namespace Go.Proofs.Ytcdibodjkdoknaa.Ba
open Go.RowKit Go.Proofs.YtcdibodjkdoknaaW.PrintWords Go.Proofs.YtcdibodjkdoknaaW.PrintLast Go.Proofs.YtcdibodjkdoknaaW.PrintMore
set_option linter.unusedVariables false

theorem be_succ (k n : Nat) : be (k + 1) n = UInt8.ofNat ((n / 256 ^ k) % 256) :: be k n := rfl
theorem nl_toNat (n : Nat) : (UInt8.ofNat (nl n)).toNat = nl n := ofNat_toNat _ (by have := nl_le n; omega)
theorem top_digit (n : Nat) (h : n < 18446744073709551616) (h0 : nl n ≠ 0) : ∃ d, nl n = d + 1 ∧ n / 256 ^ d % 256 ≠ 0 ∧ n / 256 ^ d < 256 := by
  obtain ⟨d, hd⟩ : ∃ d, nl n = d + 1 := ⟨nl n - 1, by omega⟩
  have hn : n ≠ 0 := by rintro rfl; exact h0 nl_zero
  have hb := nl_bound n h; have hl := nl_low n hn h
  rw [hd] at hb hl
  rw [Nat.add_sub_cancel] at hl
  rw [Nat.pow_succ] at hb
  have h1 : n / 256 ^ d < 256 := Nat.div_lt_of_lt_mul hb
  have h2 : 1 ≤ n / 256 ^ d := (Nat.le_div_iff_mul_le (Nat.pow_pos (by decide))).mpr (by omega)
  exact ⟨d, hd, by omega, h1⟩
theorem takeN_cons (n : Nat) (h : n < 18446744073709551616) (r : List UInt8) (hr : r ≠ [] → nl n ≠ 0 → r.getD 0 0 = (be (nl n) n).getD 0 0) :
    takeN (UInt8.ofNat (nl n) :: r) = if r.length < nl n then (0, [], 3) else (val (r.take (nl n)), r.drop (nl n), 0) := by
  have h8 := nl_le n
  rw [takeN, nl_toNat, if_neg (by omega)]
  rw [if_neg]
  rintro ⟨h1, h2, h3⟩
  obtain ⟨d, hd, hz, hlt⟩ := top_digit n h (by omega)
  rw [hr h2 (by omega), hd, be_succ] at h3
  have : (UInt8.ofNat (n / 256 ^ d % 256)).toNat = 0 := by rw [show UInt8.ofNat (n / 256 ^ d % 256) = 0 from h3]; rfl
  rw [ofNat_toNat _ (by omega)] at this
  exact hz this
theorem takeN_numL (n : Nat) (h : n < 18446744073709551616) (rest : List UInt8) : takeN (numL n ++ rest) = (n, rest, 0) := by
  have hl := be_length (nl n) n
  show takeN (UInt8.ofNat (nl n) :: (be (nl n) n ++ rest)) = _
  rw [takeN_cons n h]
  · rw [if_neg (by rw [List.length_append, hl]; omega), List.take_append_of_le_length (by omega), List.take_of_length_le (by omega), List.drop_append_of_le_length (by omega), List.drop_of_length_le (by omega), val_be_nl n h]
    rfl
  · intro _ h0
    obtain ⟨d, hd, _⟩ := top_digit n h h0
    rw [hd, be_succ]; rfl
theorem takeT_textL (t rest : List UInt8) (h : t.length ≤ 65536) : takeT (textL t ++ rest) = (t, rest, 0) := by
  unfold takeT textL
  rw [List.append_assoc, takeN_numL _ (by omega), if_pos rfl, if_neg (by simp; omega), if_neg (by simp)]
  simp
theorem frameL_take4 (p rest : List UInt8) (h : p.length ≤ 65536) : (frameL p ++ rest).take 4 = be 4 p.length := by
  unfold frameL
  rw [List.append_assoc, List.append_assoc, List.take_append_of_le_length (by rw [be_length]; omega), List.take_of_length_le (by rw [be_length]; omega)]
theorem val4 (n : Nat) (h : n < 4294967296) : val (be 4 n) = n := by rw [val_be]; exact Nat.mod_eq_of_lt h
theorem takeF_frameL (p rest : List UInt8) (h : p.length ≤ 65536) : takeF (frameL p ++ rest) = (p, rest, 0) := by
  have hl := frameL_length p
  have h4 := frameL_take4 p rest h
  have hv : val ((frameL p ++ rest).take 4) = p.length := by rw [h4, val4 _ (by omega)]
  unfold takeF
  rw [hv, if_neg (by rw [List.length_append]; omega), if_neg (by omega), if_neg (by rw [List.length_append]; omega)]
  have e6 : ((frameL p ++ rest).drop 6).take p.length = p := by
    unfold frameL
    rw [List.append_assoc, List.drop_append, List.drop_of_length_le (by rw [List.length_append, be_length, be_length]; omega)]
    simp [be_length]
  have e42 : ((frameL p ++ rest).drop 4).take 2 = be 2 (crc (be 4 p.length ++ p)) := by
    unfold frameL
    rw [List.append_assoc, List.append_assoc, List.drop_append, List.drop_of_length_le (by rw [be_length]; omega)]
    simp [be_length]
  rw [e6, h4, e42, if_pos rfl, List.drop_append, List.drop_of_length_le (by omega)]
  simp [hl]
theorem takeF_short (p : List UInt8) (h : p.length ≤ 65536) (at_ : Nat) (ha : at_ < (frameL p).length) : (takeF ((frameL p).take at_)).2.2 = 3 := by
  have hl := frameL_length p
  unfold takeF
  by_cases h4 : at_ < 4
  · rw [if_pos (by simp; omega)]
  · rw [if_neg (by simp; omega)]
    have e : ((frameL p).take at_).take 4 = be 4 p.length := by
      rw [List.take_take, Nat.min_eq_left (by omega)]
      have := frameL_take4 p [] h
      rwa [List.append_nil] at this
    rw [e, val4 _ (by omega), if_neg (by omega), if_pos (by simp; omega)]

theorem less_val : ∀ l m : List UInt8, l.length = m.length → Op.bytesLess l m = decide (val l < val m)
  | [], [], _ => by simp [Op.bytesLess]
  | a :: l, b :: m, h => by
    have hl : l.length = m.length := by simpa using h
    have ih := less_val l m hl
    have v1 := val_lt l; have v2 := val_lt m
    rw [hl] at v1
    have hp : 0 < 256 ^ m.length := Nat.pow_pos (by decide)
    rw [Op.bytesLess, ih, val_cons, val_cons, hl, Bool.eq_iff_iff]
    simp only [Bool.or_eq_true, Bool.and_eq_true, decide_eq_true_eq, beq_iff_eq, UInt8.lt_iff_toNat_lt]
    rcases Nat.lt_trichotomy a.toNat b.toNat with hab | hab | hab
    · have : a.toNat * 256 ^ m.length + 256 ^ m.length ≤ b.toNat * 256 ^ m.length := by
        have := Nat.mul_le_mul_right (256 ^ m.length) (show a.toNat + 1 ≤ b.toNat from hab)
        rwa [Nat.add_mul, Nat.one_mul] at this
      exact ⟨fun _ => by omega, fun _ => .inl hab⟩
    · have e : a = b := UInt8.toNat_inj.mp hab
      subst e
      exact ⟨fun h => by rcases h with h | h; omega; omega, fun h => .inr ⟨rfl, by omega⟩⟩
    · have : b.toNat * 256 ^ m.length + 256 ^ m.length ≤ a.toNat * 256 ^ m.length := by
        have := Nat.mul_le_mul_right (256 ^ m.length) (show b.toNat + 1 ≤ a.toNat from hab)
        rwa [Nat.add_mul, Nat.one_mul] at this
      exact ⟨fun h => by rcases h with h | ⟨h, _⟩; omega; subst h; omega, fun h => by omega⟩
theorem nl_mono (a b : Nat) (ha : a < 18446744073709551616) (hb : b < 18446744073709551616) (h : nl a < nl b) : a < b := by
  have h1 := nl_bound a ha
  have h2 := nl_low b (by rintro rfl; rw [nl_zero] at h; omega) hb
  have := Nat.pow_le_pow_right (n := 256) (by decide) (show nl a ≤ nl b - 1 by omega)
  omega
theorem order (a b : Nat) (ha : a < 18446744073709551616) (hb : b < 18446744073709551616) : Op.bytesLess (numL a) (numL b) = decide (a < b) := by
  unfold numL
  rw [Op.bytesLess, Bool.eq_iff_iff]
  simp only [Bool.or_eq_true, Bool.and_eq_true, decide_eq_true_eq, beq_iff_eq, UInt8.lt_iff_toNat_lt, nl_toNat]
  rcases Nat.lt_trichotomy (nl a) (nl b) with h | h | h
  · exact ⟨fun _ => nl_mono a b ha hb h, fun _ => .inl h⟩
  · rw [less_val _ _ (by rw [be_length, be_length, h]), val_be_nl a ha, val_be_nl b hb, decide_eq_true_eq]
    exact ⟨fun hh => by rcases hh with hh | hh; omega; exact hh.2, fun hh => .inr ⟨by rw [h], hh⟩⟩
  · have := nl_mono b a hb ha h
    refine ⟨fun hh => ?_, fun hh => by omega⟩
    rcases hh with hh | ⟨hh, _⟩
    · omega
    · have := congrArg UInt8.toNat hh; rw [nl_toNat, nl_toNat] at this; omega
theorem nat_of_u64 {n : Int} (h : (Lit.int .u64 n).wf = true) : ∃ m : Nat, n = m ∧ m < 18446744073709551616 := by
  simp only [Lit.wf, IntKind.min, IntKind.max, IntKind.signed, IntKind.bits, Bool.and_eq_true] at h
  refine ⟨n.toNat, ?_, ?_⟩ <;> simp at h <;> omega
end Go.Proofs.Ytcdibodjkdoknaa.Ba
