-- Written for this claim by a program of this session. Lean checks it.
import Derived.Test.YtcdibodjkdoknaaPMx0
import Derived.Test.YtcdibodjkdoknaaPMx2
namespace Go.Proofs.Ytcdibodjkdoknaa.PM
open Go.RowKit Go.Proofs.YtcdibodjkdoknaaW.PrintWords Go.Proofs.YtcdibodjkdoknaaW.PrintLast Go.Proofs.YtcdibodjkdoknaaW.PrintMore Go.Proofs.Ytcdibodjkdoknaa.Sh Go.Proofs.Ytcdibodjkdoknaa.Op
attribute [local go_sem] max2_int min2_int max_two min_two max_three min_three max_four min_four   -- for this text's walks alone
set_option linter.unusedVariables false
set_option maxHeartbeats 80000000
set_option maxRecDepth 100000
set_option linter.unusedSimpArgs false

/-! ### snap_Check: function 36 -/
def snap_Check.f (k : Nat) (a0_0 : Int) (a0_1 : Int) (l0_2 : List Int) (a0_3 : ByteArray) : Option (Int) := if a0_0 = 0 then (if a0_1 = 0 then (if (l0_2.length : Int) = 0 then (if (a0_3.toList = ([] : List UInt8)) then (some 0) else ((wal_Members.f k l0_2).bind fun t111 => (if t111 = true then (if (a0_3.size : Int) > 64512 then (some 4) else (some 0)) else (some 4)))) else ((wal_Members.f k l0_2).bind fun t112 => (if t112 = true then (if (a0_3.size : Int) > 64512 then (some 4) else (some 0)) else (some 4)))) else ((wal_Members.f k l0_2).bind fun t113 => (if t113 = true then (if (a0_3.size : Int) > 64512 then (some 4) else (some 0)) else (some 4)))) else ((wal_Members.f k l0_2).bind fun t114 => (if t114 = true then (if (a0_3.size : Int) > 64512 then (some 4) else (some 0)) else (some 4)))
theorem snap_Check.mono : ∀ a0 a1 a2 a3 k, LeO (snap_Check.f k a0 a1 a2 a3) (snap_Check.f (k + 1) a0 a1 a2 a3) := by
 intro a0 a1 a2 a3 k
 unfold snap_Check.f
 repeat' with_reducible first | exact wal_Members.mono _ _ | exact LeO.refl _ | exact LeO.none _ | refine LeO.ite ?_ ?_ | refine LeO.bind ?_ (fun _ => ?_)
theorem snap_Check.calls (k : Nat) (a0_0 : Int) (a0_1 : Int) (A0_2 : Option Addr) (c0_2 : Nat) (l0_2 : List Int) (a0_3 : ByteArray) (r : Int) (w : World) (hr0_2 : Kd.C (Kd.int .i64) w A0_2 l0_2.length l0_2) (hc0_2 : l0_2.length ≤ c0_2) (h : snap_Check.f k a0_0 a0_1 l0_2 a0_3 = some r) :
  Calls Try.prog 36 #[.agg #[.int .u64 a0_0, .int .u64 a0_1, .slice A0_2 l0_2.length c0_2, .string a0_3]] w fun e w' => e = .returned (.int .i64 r) ∧ Below w.heap.size w w' := by
 have hu35 := Try.underlying35
 have HR0_2 := a_ hr0_2
 have HC0_2 := a_ hc0_2
 clear hr0_2 hc0_2
 have HB := a_ (Below.refl w.heap.size w)
 have H : (if a0_0 = 0 then (if a0_1 = 0 then (if (l0_2.length : Int) = 0 then (if (a0_3.toList = ([] : List UInt8)) then (some 0) else ((wal_Members.f k l0_2).bind fun t111 => (if t111 = true then (if (a0_3.size : Int) > 64512 then (some 4) else (some 0)) else (some 4)))) else ((wal_Members.f k l0_2).bind fun t112 => (if t112 = true then (if (a0_3.size : Int) > 64512 then (some 4) else (some 0)) else (some 4)))) else ((wal_Members.f k l0_2).bind fun t113 => (if t113 = true then (if (a0_3.size : Int) > 64512 then (some 4) else (some 0)) else (some 4)))) else ((wal_Members.f k l0_2).bind fun t114 => (if t114 = true then (if (a0_3.size : Int) > 64512 then (some 4) else (some 0)) else (some 4)))) = some r := h
 clear h
 by_cases c2 : a0_0 = 0
 rotate_left
 ·rw [if_neg c2] at H
  have c2b0 : (a0_0 == 0) = false := beq_eq_false_iff_ne.mpr c2
  have c2b1 : (a0_0 != 0) = true := bne_iff_ne.mpr c2
  obtain ⟨t114, A350, H⟩ := Option.bind_eq_some_iff.mp H
  try dsimp only at H
  have A35 := a_ A350
  clear A350
  by_cases c36 : t114 = true
  rotate_left
  ·replace c36 := Bool.eq_false_iff.mpr c36
   subst c36
   have H1 : (some 4) = some r := by rw [if_neg (show ¬ (false = true) by decide)] at H; exact H
   clear H
   have H := H1
   clear H1
   obtain rfl := Option.some.inj H
   go_enter Try.func36, Try.ntmps36
   go_wp2_with (first | ((with_reducible refine gd_ 1 ?_); (try (refine gate_guard (by rfl) ?_; dsimp only)); refine bx_ 1 #[.int .u64 a0_0, .int .u64 a0_1, .slice A0_2 l0_2.length c0_2, .string a0_3] 35 ?_; intro gb110 hg w42 hbox hb; have BK110 := a_ (hbox); have GE110 := a_ (bs_0 hg HB); replace HB := hB_ (bl_ HB) hb; clear hb hbox hg; obtain ⟨hcz43_0, hcz43_1, hcz43_2, hcz43_3, hfz43_0, hfz43_1, hfz43_2, hfz43_3⟩ := c4_ BK110) | (go_at_call 69; (with_reducible refine (wal_Members.calls k _ _ l0_2 false _ ?side1 ?side2 A35.out).mono ?_); (case side1 => exact cl_ (Kd.C_below HR0_2.out HB.out)); (case side2 => exact HC0_2.out); rintro e w' ⟨rfl, ⟨nd, rfl⟩⟩))
   go_ret
   exact ⟨fz_, bl_1 HB GE110⟩


  subst c36
  have H1 : (if (a0_3.size : Int) > 64512 then (some 4) else (some 0)) = some r := by rw [if_pos rfl] at H; exact H
  clear H
  have H := H1
  clear H1
  by_cases c37 : (a0_3.size : Int) > 64512
  ·rw [if_pos c37] at H
   have c37b0 : decide (64512 < (a0_3.size : Int)) = true := decide_eq_true c37
   have c37b1 : decide (64512 < a0_3.size) = true := decide_eq_true (by omega)
   clear c37
   obtain rfl := Option.some.inj H
   go_enter Try.func36, Try.ntmps36
   go_wp2_with (first | ((with_reducible refine gd_ 1 ?_); (try (refine gate_guard (by rfl) ?_; dsimp only)); refine bx_ 1 #[.int .u64 a0_0, .int .u64 a0_1, .slice A0_2 l0_2.length c0_2, .string a0_3] 35 ?_; intro gb110 hg w38 hbox hb; have BK110 := a_ (hbox); have GE110 := a_ (bs_0 hg HB); replace HB := hB_ (bl_ HB) hb; clear hb hbox hg; obtain ⟨hcz39_0, hcz39_1, hcz39_2, hcz39_3, hfz39_0, hfz39_1, hfz39_2, hfz39_3⟩ := c4_ BK110) | (go_at_call 69; (with_reducible refine (wal_Members.calls k _ _ l0_2 true _ ?side1 ?side2 A35.out).mono ?_); (case side1 => exact cl_ (Kd.C_below HR0_2.out HB.out)); (case side2 => exact HC0_2.out); rintro e w' ⟨rfl, ⟨nd, rfl⟩⟩))
   go_ret
   exact ⟨fz_, bl_1 HB GE110⟩
  rw [if_neg c37] at H
  have c37b0 : decide (64512 < (a0_3.size : Int)) = false := decide_eq_false c37
  have c37b1 : decide (64512 < a0_3.size) = false := decide_eq_false (by omega)
  clear c37
  obtain rfl := Option.some.inj H
  go_enter Try.func36, Try.ntmps36
  go_wp2_with (first | ((with_reducible refine gd_ 1 ?_); (try (refine gate_guard (by rfl) ?_; dsimp only)); refine bx_ 1 #[.int .u64 a0_0, .int .u64 a0_1, .slice A0_2 l0_2.length c0_2, .string a0_3] 35 ?_; intro gb110 hg w40 hbox hb; have BK110 := a_ (hbox); have GE110 := a_ (bs_0 hg HB); replace HB := hB_ (bl_ HB) hb; clear hb hbox hg; obtain ⟨hcz41_0, hcz41_1, hcz41_2, hcz41_3, hfz41_0, hfz41_1, hfz41_2, hfz41_3⟩ := c4_ BK110) | (go_at_call 69; (with_reducible refine (wal_Members.calls k _ _ l0_2 true _ ?side1 ?side2 A35.out).mono ?_); (case side1 => exact cl_ (Kd.C_below HR0_2.out HB.out)); (case side2 => exact HC0_2.out); rintro e w' ⟨rfl, ⟨nd, rfl⟩⟩))
  go_ret
  exact ⟨fz_, bl_1 HB GE110⟩
 rw [if_pos c2] at H
 have c2b0 : (a0_0 == 0) = true := beq_iff_eq.mpr c2
 have c2b1 : (a0_0 != 0) = false := bne_eq_false_iff_eq.mpr c2
 clear c2
 by_cases c3 : a0_1 = 0
 rotate_left
 ·rw [if_neg c3] at H
  have c3b0 : (a0_1 == 0) = false := beq_eq_false_iff_ne.mpr c3
  have c3b1 : (a0_1 != 0) = true := bne_iff_ne.mpr c3
  obtain ⟨t113, A260, H⟩ := Option.bind_eq_some_iff.mp H
  try dsimp only at H
  have A26 := a_ A260
  clear A260
  by_cases c27 : t113 = true
  rotate_left
  ·replace c27 := Bool.eq_false_iff.mpr c27
   subst c27
   have H1 : (some 4) = some r := by rw [if_neg (show ¬ (false = true) by decide)] at H; exact H
   clear H
   have H := H1
   clear H1
   obtain rfl := Option.some.inj H
   go_enter Try.func36, Try.ntmps36
   go_wp2_with (first | ((with_reducible refine gd_ 1 ?_); (try (refine gate_guard (by rfl) ?_; dsimp only)); refine bx_ 1 #[.int .u64 a0_0, .int .u64 a0_1, .slice A0_2 l0_2.length c0_2, .string a0_3] 35 ?_; intro gb110 hg w33 hbox hb; have BK110 := a_ (hbox); have GE110 := a_ (bs_0 hg HB); replace HB := hB_ (bl_ HB) hb; clear hb hbox hg; obtain ⟨hcz34_0, hcz34_1, hcz34_2, hcz34_3, hfz34_0, hfz34_1, hfz34_2, hfz34_3⟩ := c4_ BK110) | (go_at_call 69; (with_reducible refine (wal_Members.calls k _ _ l0_2 false _ ?side1 ?side2 A26.out).mono ?_); (case side1 => exact cl_ (Kd.C_below HR0_2.out HB.out)); (case side2 => exact HC0_2.out); rintro e w' ⟨rfl, ⟨nd, rfl⟩⟩))
   go_ret
   exact ⟨fz_, bl_1 HB GE110⟩
  subst c27
  have H1 : (if (a0_3.size : Int) > 64512 then (some 4) else (some 0)) = some r := by rw [if_pos rfl] at H; exact H
  clear H
  have H := H1
  clear H1
  by_cases c28 : (a0_3.size : Int) > 64512
  ·rw [if_pos c28] at H
   have c28b0 : decide (64512 < (a0_3.size : Int)) = true := decide_eq_true c28
   have c28b1 : decide (64512 < a0_3.size) = true := decide_eq_true (by omega)
   clear c28
   obtain rfl := Option.some.inj H
   go_enter Try.func36, Try.ntmps36
   go_wp2_with (first | ((with_reducible refine gd_ 1 ?_); (try (refine gate_guard (by rfl) ?_; dsimp only)); refine bx_ 1 #[.int .u64 a0_0, .int .u64 a0_1, .slice A0_2 l0_2.length c0_2, .string a0_3] 35 ?_; intro gb110 hg w29 hbox hb; have BK110 := a_ (hbox); have GE110 := a_ (bs_0 hg HB); replace HB := hB_ (bl_ HB) hb; clear hb hbox hg; obtain ⟨hcz30_0, hcz30_1, hcz30_2, hcz30_3, hfz30_0, hfz30_1, hfz30_2, hfz30_3⟩ := c4_ BK110) | (go_at_call 69; (with_reducible refine (wal_Members.calls k _ _ l0_2 true _ ?side1 ?side2 A26.out).mono ?_); (case side1 => exact cl_ (Kd.C_below HR0_2.out HB.out)); (case side2 => exact HC0_2.out); rintro e w' ⟨rfl, ⟨nd, rfl⟩⟩))
   go_ret
   exact ⟨fz_, bl_1 HB GE110⟩
  rw [if_neg c28] at H
  have c28b0 : decide (64512 < (a0_3.size : Int)) = false := decide_eq_false c28
  have c28b1 : decide (64512 < a0_3.size) = false := decide_eq_false (by omega)
  clear c28
  obtain rfl := Option.some.inj H
  go_enter Try.func36, Try.ntmps36
  go_wp2_with (first | ((with_reducible refine gd_ 1 ?_); (try (refine gate_guard (by rfl) ?_; dsimp only)); refine bx_ 1 #[.int .u64 a0_0, .int .u64 a0_1, .slice A0_2 l0_2.length c0_2, .string a0_3] 35 ?_; intro gb110 hg w31 hbox hb; have BK110 := a_ (hbox); have GE110 := a_ (bs_0 hg HB); replace HB := hB_ (bl_ HB) hb; clear hb hbox hg; obtain ⟨hcz32_0, hcz32_1, hcz32_2, hcz32_3, hfz32_0, hfz32_1, hfz32_2, hfz32_3⟩ := c4_ BK110) | (go_at_call 69; (with_reducible refine (wal_Members.calls k _ _ l0_2 true _ ?side1 ?side2 A26.out).mono ?_); (case side1 => exact cl_ (Kd.C_below HR0_2.out HB.out)); (case side2 => exact HC0_2.out); rintro e w' ⟨rfl, ⟨nd, rfl⟩⟩))
  go_ret
  exact ⟨fz_, bl_1 HB GE110⟩
 rw [if_pos c3] at H
 have c3b0 : (a0_1 == 0) = true := beq_iff_eq.mpr c3
 have c3b1 : (a0_1 != 0) = false := bne_eq_false_iff_eq.mpr c3
 clear c3
 by_cases c4 : (l0_2.length : Int) = 0
 rotate_left
 ·rw [if_neg c4] at H
  have c4b0 : ((l0_2.length : Int) == 0) = false := beq_eq_false_iff_ne.mpr c4
  have c4b1 : ((l0_2.length : Int) != 0) = true := bne_iff_ne.mpr c4
  have c4b2 : ¬ (l0_2 = []) := fun h_ => c4 (by rw [h_]; rfl)
  obtain ⟨t112, A170, H⟩ := Option.bind_eq_some_iff.mp H
  try dsimp only at H
  have A17 := a_ A170
  clear A170
  by_cases c18 : t112 = true
  rotate_left
  ·replace c18 := Bool.eq_false_iff.mpr c18
   subst c18
   have H1 : (some 4) = some r := by rw [if_neg (show ¬ (false = true) by decide)] at H; exact H
   clear H
   have H := H1
   clear H1
   obtain rfl := Option.some.inj H
   go_enter Try.func36, Try.ntmps36
   go_wp2_with (first | ((with_reducible refine gd_ 1 ?_); (try (refine gate_guard (by rfl) ?_; dsimp only)); refine bx_ 1 #[.int .u64 a0_0, .int .u64 a0_1, .slice A0_2 l0_2.length c0_2, .string a0_3] 35 ?_; intro gb110 hg w24 hbox hb; have BK110 := a_ (hbox); have GE110 := a_ (bs_0 hg HB); replace HB := hB_ (bl_ HB) hb; clear hb hbox hg; obtain ⟨hcz25_0, hcz25_1, hcz25_2, hcz25_3, hfz25_0, hfz25_1, hfz25_2, hfz25_3⟩ := c4_ BK110) | (go_at_call 69; (with_reducible refine (wal_Members.calls k _ _ l0_2 false _ ?side1 ?side2 A17.out).mono ?_); (case side1 => exact cl_ (Kd.C_below HR0_2.out HB.out)); (case side2 => exact HC0_2.out); rintro e w' ⟨rfl, ⟨nd, rfl⟩⟩))
   go_ret
   exact ⟨fz_, bl_1 HB GE110⟩
  subst c18
  have H1 : (if (a0_3.size : Int) > 64512 then (some 4) else (some 0)) = some r := by rw [if_pos rfl] at H; exact H
  clear H
  have H := H1
  clear H1
  by_cases c19 : (a0_3.size : Int) > 64512
  ·rw [if_pos c19] at H
   have c19b0 : decide (64512 < (a0_3.size : Int)) = true := decide_eq_true c19
   have c19b1 : decide (64512 < a0_3.size) = true := decide_eq_true (by omega)
   clear c19
   obtain rfl := Option.some.inj H
   go_enter Try.func36, Try.ntmps36
   go_wp2_with (first | ((with_reducible refine gd_ 1 ?_); (try (refine gate_guard (by rfl) ?_; dsimp only)); refine bx_ 1 #[.int .u64 a0_0, .int .u64 a0_1, .slice A0_2 l0_2.length c0_2, .string a0_3] 35 ?_; intro gb110 hg w20 hbox hb; have BK110 := a_ (hbox); have GE110 := a_ (bs_0 hg HB); replace HB := hB_ (bl_ HB) hb; clear hb hbox hg; obtain ⟨hcz21_0, hcz21_1, hcz21_2, hcz21_3, hfz21_0, hfz21_1, hfz21_2, hfz21_3⟩ := c4_ BK110) | (go_at_call 69; (with_reducible refine (wal_Members.calls k _ _ l0_2 true _ ?side1 ?side2 A17.out).mono ?_); (case side1 => exact cl_ (Kd.C_below HR0_2.out HB.out)); (case side2 => exact HC0_2.out); rintro e w' ⟨rfl, ⟨nd, rfl⟩⟩))
   go_ret
   exact ⟨fz_, bl_1 HB GE110⟩
  rw [if_neg c19] at H
  have c19b0 : decide (64512 < (a0_3.size : Int)) = false := decide_eq_false c19
  have c19b1 : decide (64512 < a0_3.size) = false := decide_eq_false (by omega)
  clear c19
  obtain rfl := Option.some.inj H
  go_enter Try.func36, Try.ntmps36
  go_wp2_with (first | ((with_reducible refine gd_ 1 ?_); (try (refine gate_guard (by rfl) ?_; dsimp only)); refine bx_ 1 #[.int .u64 a0_0, .int .u64 a0_1, .slice A0_2 l0_2.length c0_2, .string a0_3] 35 ?_; intro gb110 hg w22 hbox hb; have BK110 := a_ (hbox); have GE110 := a_ (bs_0 hg HB); replace HB := hB_ (bl_ HB) hb; clear hb hbox hg; obtain ⟨hcz23_0, hcz23_1, hcz23_2, hcz23_3, hfz23_0, hfz23_1, hfz23_2, hfz23_3⟩ := c4_ BK110) | (go_at_call 69; (with_reducible refine (wal_Members.calls k _ _ l0_2 true _ ?side1 ?side2 A17.out).mono ?_); (case side1 => exact cl_ (Kd.C_below HR0_2.out HB.out)); (case side2 => exact HC0_2.out); rintro e w' ⟨rfl, ⟨nd, rfl⟩⟩))
  go_ret
  exact ⟨fz_, bl_1 HB GE110⟩
 rw [if_pos c4] at H
 have c4b0 : ((l0_2.length : Int) == 0) = true := beq_iff_eq.mpr c4
 have c4b1 : ((l0_2.length : Int) != 0) = false := bne_eq_false_iff_eq.mpr c4
 clear c4
 by_cases c5 : (a0_3.toList = ([] : List UInt8))
 ·rw [if_pos c5] at H
  have c5b0 : (a0_3.toList == ([] : List UInt8)) = true := beq_iff_eq.mpr c5
  have c5b1 : (a0_3.toList != ([] : List UInt8)) = false := bne_eq_false_iff_eq.mpr c5
  clear c5
  obtain rfl := Option.some.inj H
  go_enter Try.func36, Try.ntmps36
  go_wp2_with (first | ((with_reducible refine gd_ 1 ?_); (try (refine gate_guard (by rfl) ?_; dsimp only)); refine bx_ 1 #[.int .u64 a0_0, .int .u64 a0_1, .slice A0_2 l0_2.length c0_2, .string a0_3] 35 ?_; intro gb110 hg w6 hbox hb; have BK110 := a_ (hbox); have GE110 := a_ (bs_0 hg HB); replace HB := hB_ (bl_ HB) hb; clear hb hbox hg; obtain ⟨hcz7_0, hcz7_1, hcz7_2, hcz7_3, hfz7_0, hfz7_1, hfz7_2, hfz7_3⟩ := c4_ BK110))
  go_ret
  exact ⟨fz_, bl_1 HB GE110⟩
 rw [if_neg c5] at H
 have c5b0 : (a0_3.toList == ([] : List UInt8)) = false := beq_eq_false_iff_ne.mpr c5
 have c5b1 : (a0_3.toList != ([] : List UInt8)) = true := bne_iff_ne.mpr c5
 obtain ⟨t111, A80, H⟩ := Option.bind_eq_some_iff.mp H
 try dsimp only at H
 have A8 := a_ A80
 clear A80
 by_cases c9 : t111 = true
 rotate_left
 ·replace c9 := Bool.eq_false_iff.mpr c9
  subst c9
  have H1 : (some 4) = some r := by rw [if_neg (show ¬ (false = true) by decide)] at H; exact H
  clear H
  have H := H1
  clear H1
  obtain rfl := Option.some.inj H
  go_enter Try.func36, Try.ntmps36
  go_wp2_with (first | ((with_reducible refine gd_ 1 ?_); (try (refine gate_guard (by rfl) ?_; dsimp only)); refine bx_ 1 #[.int .u64 a0_0, .int .u64 a0_1, .slice A0_2 l0_2.length c0_2, .string a0_3] 35 ?_; intro gb110 hg w15 hbox hb; have BK110 := a_ (hbox); have GE110 := a_ (bs_0 hg HB); replace HB := hB_ (bl_ HB) hb; clear hb hbox hg; obtain ⟨hcz16_0, hcz16_1, hcz16_2, hcz16_3, hfz16_0, hfz16_1, hfz16_2, hfz16_3⟩ := c4_ BK110) | (go_at_call 69; (with_reducible refine (wal_Members.calls k _ _ l0_2 false _ ?side1 ?side2 A8.out).mono ?_); (case side1 => exact cl_ (Kd.C_below HR0_2.out HB.out)); (case side2 => exact HC0_2.out); rintro e w' ⟨rfl, ⟨nd, rfl⟩⟩))
  go_ret
  exact ⟨fz_, bl_1 HB GE110⟩
 subst c9
 have H1 : (if (a0_3.size : Int) > 64512 then (some 4) else (some 0)) = some r := by rw [if_pos rfl] at H; exact H
 clear H
 have H := H1
 clear H1
 by_cases c10 : (a0_3.size : Int) > 64512
 ·rw [if_pos c10] at H
  have c10b0 : decide (64512 < (a0_3.size : Int)) = true := decide_eq_true c10
  have c10b1 : decide (64512 < a0_3.size) = true := decide_eq_true (by omega)
  clear c10
  obtain rfl := Option.some.inj H
  go_enter Try.func36, Try.ntmps36
  go_wp2_with (first | ((with_reducible refine gd_ 1 ?_); (try (refine gate_guard (by rfl) ?_; dsimp only)); refine bx_ 1 #[.int .u64 a0_0, .int .u64 a0_1, .slice A0_2 l0_2.length c0_2, .string a0_3] 35 ?_; intro gb110 hg w11 hbox hb; have BK110 := a_ (hbox); have GE110 := a_ (bs_0 hg HB); replace HB := hB_ (bl_ HB) hb; clear hb hbox hg; obtain ⟨hcz12_0, hcz12_1, hcz12_2, hcz12_3, hfz12_0, hfz12_1, hfz12_2, hfz12_3⟩ := c4_ BK110) | (go_at_call 69; (with_reducible refine (wal_Members.calls k _ _ l0_2 true _ ?side1 ?side2 A8.out).mono ?_); (case side1 => exact cl_ (Kd.C_below HR0_2.out HB.out)); (case side2 => exact HC0_2.out); rintro e w' ⟨rfl, ⟨nd, rfl⟩⟩))
  go_ret
  exact ⟨fz_, bl_1 HB GE110⟩
 rw [if_neg c10] at H
 have c10b0 : decide (64512 < (a0_3.size : Int)) = false := decide_eq_false c10
 have c10b1 : decide (64512 < a0_3.size) = false := decide_eq_false (by omega)
 clear c10
 obtain rfl := Option.some.inj H
 go_enter Try.func36, Try.ntmps36
 go_wp2_with (first | ((with_reducible refine gd_ 1 ?_); (try (refine gate_guard (by rfl) ?_; dsimp only)); refine bx_ 1 #[.int .u64 a0_0, .int .u64 a0_1, .slice A0_2 l0_2.length c0_2, .string a0_3] 35 ?_; intro gb110 hg w13 hbox hb; have BK110 := a_ (hbox); have GE110 := a_ (bs_0 hg HB); replace HB := hB_ (bl_ HB) hb; clear hb hbox hg; obtain ⟨hcz14_0, hcz14_1, hcz14_2, hcz14_3, hfz14_0, hfz14_1, hfz14_2, hfz14_3⟩ := c4_ BK110) | (go_at_call 69; (with_reducible refine (wal_Members.calls k _ _ l0_2 true _ ?side1 ?side2 A8.out).mono ?_); (case side1 => exact cl_ (Kd.C_below HR0_2.out HB.out)); (case side2 => exact HC0_2.out); rintro e w' ⟨rfl, ⟨nd, rfl⟩⟩))
 go_ret
 exact ⟨fz_, bl_1 HB GE110⟩
/-! ### wal_Check: function 37 -/
def wal_Check.j0 : Nat → Bool → Int → Int → Int → ByteArray → List Int → Option (Int)
 | 0, _, _, _, _, _, _ => none
 | k + 1, x3, x116000, x116001, x116002, x116003, x116004 => if x116002 = 1 then (if x3 = true then (if x116003.toList = ([] : List UInt8) then (if ((x116004.length : Int) = 0) then (some 0) else (some 4)) else (some 4)) else (some 4)) else (if x116002 = 2 then (if x3 = true then (if ((x116004.length : Int) = 0) then (some 0) else (some 4)) else (some 4)) else (if x116002 = 3 then (if x3 = true then (if x116003.toList = ([] : List UInt8) then ((wal_Members.f k x116004).bind fun t116 => (if t116 = true then (some 0) else (some 4))) else (some 4)) else (some 4)) else (some 4)))
def wal_Check.f (k : Nat) (a0_0 : Int) (a0_1 : Int) (a0_2 : Int) (a0_3 : ByteArray) (l0_4 : List Int) : Option (Int) := if a0_0 > 0 then (wal_Check.j0 k (decide ((a0_3.size : Int) ≤ 4096)) a0_0 a0_1 a0_2 a0_3 l0_4) else (wal_Check.j0 k false a0_0 a0_1 a0_2 a0_3 l0_4)
theorem wal_Check.mono_l : ∀ k, (∀ y0 y1 y2 y3 y4 y5, LeO (wal_Check.j0 k y0 y1 y2 y3 y4 y5) (wal_Check.j0 (k + 1) y0 y1 y2 y3 y4 y5))
 | 0 => fun _ _ _ _ _ _ r h => by simp [wal_Check.j0] at h
 | k + 1 => by
  have ih0 := wal_Check.mono_l k
  ·intro y0 y1 y2 y3 y4 y5
   unfold wal_Check.j0
   repeat' with_reducible first | exact ih0 _ _ _ _ _ _ | exact wal_Members.mono _ _ | exact LeO.refl _ | exact LeO.none _ | refine LeO.ite ?_ ?_ | refine LeO.bind ?_ (fun _ => ?_)
theorem wal_Check.mono : ∀ a0 a1 a2 a3 a4 k, LeO (wal_Check.f k a0 a1 a2 a3 a4) (wal_Check.f (k + 1) a0 a1 a2 a3 a4) := by
 intro a0 a1 a2 a3 a4 k
 have ih0 := wal_Check.mono_l k
 unfold wal_Check.f
 repeat' with_reducible first | exact ih0 _ _ _ _ _ _ | exact wal_Members.mono _ _ | exact LeO.refl _ | exact LeO.none _ | refine LeO.ite ?_ ?_ | refine LeO.bind ?_ (fun _ => ?_)
theorem wal_Check.calls (k : Nat) (a0_0 : Int) (a0_1 : Int) (a0_2 : Int) (a0_3 : ByteArray) (A0_4 : Option Addr) (c0_4 : Nat) (l0_4 : List Int) (r : Int) (w : World) (hr0_4 : Kd.C (Kd.int .i64) w A0_4 l0_4.length l0_4) (hc0_4 : l0_4.length ≤ c0_4) (h : wal_Check.f k a0_0 a0_1 a0_2 a0_3 l0_4 = some r) :
  Calls Try.prog 37 #[.agg #[.int .u64 a0_0, .int .u64 a0_1, .int .u8 a0_2, .string a0_3, .slice A0_4 l0_4.length c0_4]] w fun e w' => e = .returned (.int .i64 r) ∧ Below w.heap.size w w' := by
 have hu67 := Try.underlying67
 have HR0_4 := a_ hr0_4
 have HC0_4 := a_ hc0_4
 clear hr0_4 hc0_4
 have HB := a_ (Below.refl w.heap.size w)
 have H : (if a0_0 > 0 then (wal_Check.j0 k (decide ((a0_3.size : Int) ≤ 4096)) a0_0 a0_1 a0_2 a0_3 l0_4) else (wal_Check.j0 k false a0_0 a0_1 a0_2 a0_3 l0_4)) = some r := h
 clear h
 have HC2 := a_ H
 clear H
 go_enter Try.func37, Try.ntmps37
 go_upto_region 1 with (first | ((with_reducible refine gd_ 1 ?_); (try (refine gate_guard (by rfl) ?_; dsimp only)); refine bx_ 1 #[.int .u64 a0_0, .int .u64 a0_1, .int .u8 a0_2, .string a0_3, .slice A0_4 l0_4.length c0_4] 67 ?_; intro gb115 hg w3 hbox hb; have BK115 := a_ (hbox); have GE115 := a_ (bs_0 hg HB); replace HB := hB_ (bl_ HB) hb; clear hb hbox hg))
 (try simp only [Act.put, List.setIfInBounds_toArray, List.set_cons_zero, List.set_cons_succ])
 go_cut [3] (fun v3 wc => ∃ (kq : Nat) (x3_1 : Bool), v3 = .bool x3_1 ∧ Aside0 (wal_Check.j0 kq x3_1 a0_0 a0_1 a0_2 a0_3 l0_4 = some r) ∧ Aside0 (kq ≤ k) ∧ Aside0 (wc.heap[gb115]? = some (.cells #[.int .u64 a0_0, .int .u64 a0_1, .int .u8 a0_2, .string a0_3, (.slice A0_4 l0_4.length c0_4)] 67 (0, 0))) ∧ Aside0 (Below w.heap.size w wc))
 case first =>
  have H := HC2.out
  clear HC2
  by_cases c4 : a0_0 > 0
  rotate_left
  ·rw [if_neg c4] at H
   have c4b0 : decide (0 < a0_0) = false := decide_eq_false c4
   clear c4
   (first | rw [c4b0] | (simp only [i64_w, i32_w]; rw [c4b0]) | skip)
   have H' := a_ H
   clear H
   obtain ⟨hcz6_0, hcz6_1, hcz6_2, hcz6_3, hcz6_4, hfz6_0, hfz6_1, hfz6_2, hfz6_3, hfz6_4⟩ := c5_ BK115
   go_wp2
   go_meet
   case rel => exact ⟨_, (false), fz_, H', ⟨by first | omega | exact Nat.le_refl _⟩, ⟨bk_ BK115⟩, ⟨bl_1 HB GE115⟩⟩
  rw [if_pos c4] at H
  have c4b0 : decide (0 < a0_0) = true := decide_eq_true c4
  clear c4
  (first | rw [c4b0] | (simp only [i64_w, i32_w]; rw [c4b0]) | skip)
  have H' := a_ H
  clear H
  obtain ⟨hcz5_0, hcz5_1, hcz5_2, hcz5_3, hcz5_4, hfz5_0, hfz5_1, hfz5_2, hfz5_3, hfz5_4⟩ := c5_ BK115
  go_wp2
  go_meet
  case rel => exact ⟨_, (decide ((a0_3.size : Int) ≤ 4096)), fz_, H', ⟨by first | omega | exact Nat.le_refl _⟩, ⟨bk_ BK115⟩, ⟨bl_1 HB GE115⟩⟩
 case rest =>
  clear HC2
  try clear p2
  try clear c3
  try clear c4
  try clear c4b0
  obtain ⟨kq, x3_1, rfl, HA, HJ1, BK115, HB⟩ := hcut
  cases kq with
  | zero => exact absurd HA.out (by simp [wal_Check.j0])
  | succ kj1 =>
   have H := HA.out
   clear HA
   simp only [wal_Check.j0] at H
   by_cases c7 : a0_2 = 1
   ·rw [if_pos c7] at H
    have c7b0 : (a0_2 == 1) = true := beq_iff_eq.mpr c7
    have c7b1 : (a0_2 != 1) = false := bne_eq_false_iff_eq.mpr c7
    clear c7
    by_cases c8 : x3_1 = true
    rotate_left
    ·replace c8 := Bool.eq_false_iff.mpr c8
     subst c8
     have H1 : (some 4) = some r := by rw [if_neg (show ¬ (false = true) by decide)] at H; exact H
     clear H
     have H := H1
     clear H1
     obtain rfl := Option.some.inj H
     obtain ⟨hcz14_0, hcz14_1, hcz14_2, hcz14_3, hcz14_4, hfz14_0, hfz14_1, hfz14_2, hfz14_3, hfz14_4⟩ := c5_ BK115
     go_wp2
     go_ret
     exact ⟨fz_, bl_1 HB GE115⟩
    subst c8
    have H1 : (if a0_3.toList = ([] : List UInt8) then (if ((l0_4.length : Int) = 0) then (some 0) else (some 4)) else (some 4)) = some r := by rw [if_pos rfl] at H; exact H
    clear H
    have H := H1
    clear H1
    by_cases c9 : a0_3.toList = ([] : List UInt8)
    rotate_left
    ·rw [if_neg c9] at H
     have c9b0 : (a0_3.toList == ([] : List UInt8)) = false := beq_eq_false_iff_ne.mpr c9
     have c9b1 : (a0_3.toList != ([] : List UInt8)) = true := bne_iff_ne.mpr c9
     obtain rfl := Option.some.inj H
     obtain ⟨hcz13_0, hcz13_1, hcz13_2, hcz13_3, hcz13_4, hfz13_0, hfz13_1, hfz13_2, hfz13_3, hfz13_4⟩ := c5_ BK115
     go_wp2
     go_ret
     exact ⟨fz_, bl_1 HB GE115⟩
    rw [if_pos c9] at H
    have c9b0 : (a0_3.toList == ([] : List UInt8)) = true := beq_iff_eq.mpr c9
    have c9b1 : (a0_3.toList != ([] : List UInt8)) = false := bne_eq_false_iff_eq.mpr c9
    clear c9
    by_cases c10 : ((l0_4.length : Int) = 0)
    ·rw [if_pos c10] at H
     have c10b0 : ((l0_4.length : Int) == 0) = true := beq_iff_eq.mpr c10
     have c10b1 : ((l0_4.length : Int) != 0) = false := bne_eq_false_iff_eq.mpr c10
     clear c10
     obtain rfl := Option.some.inj H
     obtain ⟨hcz11_0, hcz11_1, hcz11_2, hcz11_3, hcz11_4, hfz11_0, hfz11_1, hfz11_2, hfz11_3, hfz11_4⟩ := c5_ BK115
     go_wp2
     go_ret
     exact ⟨fz_, bl_1 HB GE115⟩
    rw [if_neg c10] at H
    have c10b0 : ((l0_4.length : Int) == 0) = false := beq_eq_false_iff_ne.mpr c10
    have c10b1 : ((l0_4.length : Int) != 0) = true := bne_iff_ne.mpr c10
    have c10b2 : ¬ (l0_4 = []) := fun h_ => c10 (by rw [h_]; rfl)
    obtain rfl := Option.some.inj H
    obtain ⟨hcz12_0, hcz12_1, hcz12_2, hcz12_3, hcz12_4, hfz12_0, hfz12_1, hfz12_2, hfz12_3, hfz12_4⟩ := c5_ BK115
    go_wp2
    go_ret
    exact ⟨fz_, bl_1 HB GE115⟩
   rw [if_neg c7] at H
   have c7b0 : (a0_2 == 1) = false := beq_eq_false_iff_ne.mpr c7
   have c7b1 : (a0_2 != 1) = true := bne_iff_ne.mpr c7
   by_cases c15 : a0_2 = 2
   ·rw [if_pos c15] at H
    have c15b0 : (a0_2 == 2) = true := beq_iff_eq.mpr c15
    have c15b1 : (a0_2 != 2) = false := bne_eq_false_iff_eq.mpr c15
    clear c15
    by_cases c16 : x3_1 = true
    rotate_left
    ·replace c16 := Bool.eq_false_iff.mpr c16
     subst c16
     have H1 : (some 4) = some r := by rw [if_neg (show ¬ (false = true) by decide)] at H; exact H
     clear H
     have H := H1
     clear H1
     obtain rfl := Option.some.inj H
     obtain ⟨hcz20_0, hcz20_1, hcz20_2, hcz20_3, hcz20_4, hfz20_0, hfz20_1, hfz20_2, hfz20_3, hfz20_4⟩ := c5_ BK115
     go_wp2
     go_ret
     exact ⟨fz_, bl_1 HB GE115⟩
    subst c16
    have H1 : (if ((l0_4.length : Int) = 0) then (some 0) else (some 4)) = some r := by rw [if_pos rfl] at H; exact H
    clear H
    have H := H1
    clear H1
    by_cases c17 : ((l0_4.length : Int) = 0)
    ·rw [if_pos c17] at H
     have c17b0 : ((l0_4.length : Int) == 0) = true := beq_iff_eq.mpr c17
     have c17b1 : ((l0_4.length : Int) != 0) = false := bne_eq_false_iff_eq.mpr c17
     clear c17
     obtain rfl := Option.some.inj H
     obtain ⟨hcz18_0, hcz18_1, hcz18_2, hcz18_3, hcz18_4, hfz18_0, hfz18_1, hfz18_2, hfz18_3, hfz18_4⟩ := c5_ BK115
     go_wp2
     go_ret
     exact ⟨fz_, bl_1 HB GE115⟩
    rw [if_neg c17] at H
    have c17b0 : ((l0_4.length : Int) == 0) = false := beq_eq_false_iff_ne.mpr c17
    have c17b1 : ((l0_4.length : Int) != 0) = true := bne_iff_ne.mpr c17
    have c17b2 : ¬ (l0_4 = []) := fun h_ => c17 (by rw [h_]; rfl)
    obtain rfl := Option.some.inj H
    obtain ⟨hcz19_0, hcz19_1, hcz19_2, hcz19_3, hcz19_4, hfz19_0, hfz19_1, hfz19_2, hfz19_3, hfz19_4⟩ := c5_ BK115
    go_wp2
    go_ret
    exact ⟨fz_, bl_1 HB GE115⟩
   rw [if_neg c15] at H
   have c15b0 : (a0_2 == 2) = false := beq_eq_false_iff_ne.mpr c15
   have c15b1 : (a0_2 != 2) = true := bne_iff_ne.mpr c15
   by_cases c21 : a0_2 = 3
   rotate_left
   ·rw [if_neg c21] at H
    have c21b0 : (a0_2 == 3) = false := beq_eq_false_iff_ne.mpr c21
    have c21b1 : (a0_2 != 3) = true := bne_iff_ne.mpr c21
    obtain rfl := Option.some.inj H
    obtain ⟨hcz30_0, hcz30_1, hcz30_2, hcz30_3, hcz30_4, hfz30_0, hfz30_1, hfz30_2, hfz30_3, hfz30_4⟩ := c5_ BK115
    go_wp2
    go_ret
    exact ⟨fz_, bl_1 HB GE115⟩


   rw [if_pos c21] at H
   have c21b0 : (a0_2 == 3) = true := beq_iff_eq.mpr c21
   have c21b1 : (a0_2 != 3) = false := bne_eq_false_iff_eq.mpr c21
   clear c21
   by_cases c22 : x3_1 = true
   rotate_left
   ·replace c22 := Bool.eq_false_iff.mpr c22
    subst c22
    have H1 : (some 4) = some r := by rw [if_neg (show ¬ (false = true) by decide)] at H; exact H
    clear H
    have H := H1
    clear H1
    obtain rfl := Option.some.inj H
    obtain ⟨hcz29_0, hcz29_1, hcz29_2, hcz29_3, hcz29_4, hfz29_0, hfz29_1, hfz29_2, hfz29_3, hfz29_4⟩ := c5_ BK115
    go_wp2
    go_ret
    exact ⟨fz_, bl_1 HB GE115⟩
   subst c22
   have H1 : (if a0_3.toList = ([] : List UInt8) then ((wal_Members.f kj1 l0_4).bind fun t116 => (if t116 = true then (some 0) else (some 4))) else (some 4)) = some r := by rw [if_pos rfl] at H; exact H
   clear H
   have H := H1
   clear H1
   by_cases c23 : a0_3.toList = ([] : List UInt8)
   rotate_left
   ·rw [if_neg c23] at H
    have c23b0 : (a0_3.toList == ([] : List UInt8)) = false := beq_eq_false_iff_ne.mpr c23
    have c23b1 : (a0_3.toList != ([] : List UInt8)) = true := bne_iff_ne.mpr c23
    obtain rfl := Option.some.inj H
    obtain ⟨hcz28_0, hcz28_1, hcz28_2, hcz28_3, hcz28_4, hfz28_0, hfz28_1, hfz28_2, hfz28_3, hfz28_4⟩ := c5_ BK115
    go_wp2
    go_ret
    exact ⟨fz_, bl_1 HB GE115⟩
   rw [if_pos c23] at H
   have c23b0 : (a0_3.toList == ([] : List UInt8)) = true := beq_iff_eq.mpr c23
   have c23b1 : (a0_3.toList != ([] : List UInt8)) = false := bne_eq_false_iff_eq.mpr c23
   clear c23
   obtain ⟨t116, A240, H⟩ := Option.bind_eq_some_iff.mp H
   try dsimp only at H
   have A24 := a_ A240
   clear A240
   by_cases c25 : t116 = true
   ·subst c25
    have H1 : (some 0) = some r := by rw [if_pos rfl] at H; exact H
    clear H
    have H := H1
    clear H1
    obtain rfl := Option.some.inj H
    obtain ⟨hcz26_0, hcz26_1, hcz26_2, hcz26_3, hcz26_4, hfz26_0, hfz26_1, hfz26_2, hfz26_3, hfz26_4⟩ := c5_ BK115
    go_wp2_with (first | (go_at_call 69; (with_reducible refine (wal_Members.calls kj1 _ _ l0_4 true _ ?side1 ?side2 A24.out).mono ?_); (case side1 => exact cl_ (Kd.C_below HR0_4.out HB.out)); (case side2 => exact HC0_4.out); rintro e w' ⟨rfl, ⟨nd, rfl⟩⟩))
    go_ret
    exact ⟨fz_, bl_1 HB GE115⟩
   replace c25 := Bool.eq_false_iff.mpr c25
   subst c25
   have H1 : (some 4) = some r := by rw [if_neg (show ¬ (false = true) by decide)] at H; exact H
   clear H
   have H := H1
   clear H1
   obtain rfl := Option.some.inj H
   obtain ⟨hcz27_0, hcz27_1, hcz27_2, hcz27_3, hcz27_4, hfz27_0, hfz27_1, hfz27_2, hfz27_3, hfz27_4⟩ := c5_ BK115
   go_wp2_with (first | (go_at_call 69; (with_reducible refine (wal_Members.calls kj1 _ _ l0_4 false _ ?side1 ?side2 A24.out).mono ?_); (case side1 => exact cl_ (Kd.C_below HR0_4.out HB.out)); (case side2 => exact HC0_4.out); rintro e w' ⟨rfl, ⟨nd, rfl⟩⟩))
   go_ret
   exact ⟨fz_, bl_1 HB GE115⟩end Go.Proofs.Ytcdibodjkdoknaa.PM
