-- Written for this claim by a program of this session. Lean checks it.
import Derived.Test.YtcdibodjkdoknaaPMx0
namespace Go.Proofs.Ytcdibodjkdoknaa.PM
open Go.RowKit Go.Proofs.YtcdibodjkdoknaaW.PrintWords Go.Proofs.YtcdibodjkdoknaaW.PrintLast Go.Proofs.YtcdibodjkdoknaaW.PrintMore Go.Proofs.Ytcdibodjkdoknaa.Sh Go.Proofs.Ytcdibodjkdoknaa.Op
attribute [local go_sem] max2_int min2_int max_two min_two max_three min_three max_four min_four   -- for this text's walks alone
set_option linter.unusedVariables false
set_option maxHeartbeats 80000000
set_option maxRecDepth 100000
set_option linter.unusedSimpArgs false

/-! ### gafferref03_SameInts: function 66 -/
def gafferref03_SameInts.l0 : Nat → List Int → List Int → Int → Int → Option (Bool)
 | 0, _, _, _, _ => none
 | k + 1, x0, x1, x12, x13 => if x13 < x12 then (if 0 ≤ x13 then (if x13 < (x0.length : Int) then (if x13 < (x1.length : Int) then (if (rd x0 x13) = (rd x1 x13) then (gafferref03_SameInts.l0 k x0 x1 x12 (wrap64 (x13 + 1))) else (some false)) else (none)) else (none)) else (none)) else (some true)
def gafferref03_SameInts.f (k : Nat) (l0 : List Int) (l1 : List Int) : Option (Bool) := if (l0.length : Int) = (l1.length : Int) then (gafferref03_SameInts.l0 k l0 l1 (l0.length : Int) 0) else (some false)
theorem gafferref03_SameInts.mono_l : ∀ k, (∀ y0 y1 y2 y3, LeO (gafferref03_SameInts.l0 k y0 y1 y2 y3) (gafferref03_SameInts.l0 (k + 1) y0 y1 y2 y3))
 | 0 => fun _ _ _ _ r h => by simp [gafferref03_SameInts.l0] at h
 | k + 1 => by
  have ih0 := gafferref03_SameInts.mono_l k
  ·intro y0 y1 y2 y3
   unfold gafferref03_SameInts.l0
   repeat' with_reducible first | exact ih0 _ _ _ _ | exact LeO.refl _ | exact LeO.none _ | refine LeO.ite ?_ ?_ | refine LeO.bind ?_ (fun _ => ?_)
theorem gafferref03_SameInts.mono : ∀ a0 a1 k, LeO (gafferref03_SameInts.f k a0 a1) (gafferref03_SameInts.f (k + 1) a0 a1) := by
 intro a0 a1 k
 have ih0 := gafferref03_SameInts.mono_l k
 unfold gafferref03_SameInts.f
 repeat' with_reducible first | exact ih0 _ _ _ _ | exact LeO.refl _ | exact LeO.none _ | refine LeO.ite ?_ ?_ | refine LeO.bind ?_ (fun _ => ?_)
theorem gafferref03_SameInts.calls (k : Nat) (A0 : Option Addr) (c0 : Nat) (l0 : List Int) (A1 : Option Addr) (c1 : Nat) (l1 : List Int) (r : Bool) (w : World) (hr0 : Kd.C (Kd.int .i64) w A0 l0.length l0) (hc0 : l0.length ≤ c0) (hr1 : Kd.C (Kd.int .i64) w A1 l1.length l1) (hc1 : l1.length ≤ c1) (h : gafferref03_SameInts.f k l0 l1 = some r) :
  Calls Try.prog 66 #[.slice A0 l0.length c0, .slice A1 l1.length c1] w fun e w' => e = .returned (.bool r) ∧ Drawn0 w w' := by
 have HR0 := a_ hr0
 have HC0 := a_ hc0
 clear hr0 hc0
 have HR1 := a_ hr1
 have HC1 := a_ hc1
 clear hr1 hc1
 have H : (if (l0.length : Int) = (l1.length : Int) then (gafferref03_SameInts.l0 k l0 l1 (l0.length : Int) 0) else (some false)) = some r := h
 clear h
 by_cases c3 : (l0.length : Int) = (l1.length : Int)
 rotate_left
 ·rw [if_neg c3] at H
  have c3b0 : ((l0.length : Int) == (l1.length : Int)) = false := beq_eq_false_iff_ne.mpr c3
  have c3b1 : ((l0.length : Int) != (l1.length : Int)) = true := bne_iff_ne.mpr c3
  have c3b2 : (l0.length == l1.length) = false := by first | simpa using c3 | (simp at c3 ⊢; omega)
  obtain rfl := Option.some.inj H
  go_enter Try.func66, Try.ntmps66
  go_wp2
  repeat (go_quiet (fail); try go_wp2)
  go_ret
  exact ⟨fz_, dr_⟩


 rw [if_pos c3] at H
 have c3b0 : ((l0.length : Int) == (l1.length : Int)) = true := beq_iff_eq.mpr c3
 have c3b1 : ((l0.length : Int) != (l1.length : Int)) = false := bne_eq_false_iff_eq.mpr c3
 have c3b2 : (l0.length == l1.length) = true := by first | simpa using c3 | (simp at c3 ⊢; omega)
 clear c3
 have H' := a_ H
 clear H
 go_enter Try.func66, Try.ntmps66
 go_wp2
 repeat (go_quiet (fail); try go_wp2)
 go_loopg [13] k (fun kq v13 w' => ∃ (x13_1 : Int), v13 = .int .i64 x13_1 ∧ Aside0 (gafferref03_SameInts.l0 kq l0 l1 (l0.length : Int) x13_1 = some r) ∧ Aside0 (kq ≤ k) ∧ Drawn0 w w')
 case atStart => exact ⟨(0), fz_, H', ⟨Nat.le_refl _⟩, dr_⟩
 case round =>
  clear H'
  try clear c1
  try clear p2
  try clear c3
  try clear c3b0
  try clear c3b1
  try clear c3b2
  obtain ⟨x13_1, rfl, HA, HK1, ⟨m1, rfl⟩⟩ := hrel
  cases gk with
  | zero => exact absurd HA.out (by simp [gafferref03_SameInts.l0])
  | succ k1 =>
   have H := HA.out
   clear HA
   simp only [gafferref03_SameInts.l0] at H
   by_cases c4 : x13_1 < (l0.length : Int)
   rotate_left
   ·rw [if_neg c4] at H
    have c4b0 : decide (x13_1 < (l0.length : Int)) = false := decide_eq_false c4
    clear c4
    obtain rfl := Option.some.inj H
    go_wp2
    repeat (go_quiet (fail); try go_wp2)
    go_ret
    exact ⟨fz_, dr_⟩
   rw [if_pos c4] at H
   have c4b0 : decide (x13_1 < (l0.length : Int)) = true := decide_eq_true c4
   clear c4
   by_cases c5 : 0 ≤ x13_1
   rotate_left
   ·rw [if_neg c5] at H
    exact absurd H (by simp)
   rw [if_pos c5] at H
   have c5b0 : decide (0 ≤ x13_1) = true := decide_eq_true c5
   clear c5
   by_cases c6 : x13_1 < (l0.length : Int)
   rotate_left
   ·rw [if_neg c6] at H
    exact absurd H (by simp)
   rw [if_pos c6] at H
   have c6b0 : decide (x13_1 < (l0.length : Int)) = true := decide_eq_true c6
   clear c6
   by_cases c7 : x13_1 < (l1.length : Int)
   rotate_left
   ·rw [if_neg c7] at H
    exact absurd H (by simp)
   rw [if_pos c7] at H
   have c7b0 : decide (x13_1 < (l1.length : Int)) = true := decide_eq_true c7
   clear c7
   by_cases c8 : (rd l0 x13_1) = (rd l1 x13_1)
   rotate_left
   ·rw [if_neg c8] at H
    have c8b0 : ((rd l0 x13_1) == (rd l1 x13_1)) = false := beq_eq_false_iff_ne.mpr c8
    have c8b1 : ((rd l0 x13_1) != (rd l1 x13_1)) = true := bne_iff_ne.mpr c8
    obtain rfl := Option.some.inj H
    have p147 : 0 ≤ (x13_1 : Int) := od_
    have q147 : x13_1 < (l0.length : Int) := od_
    obtain ⟨ad147, e147, hx147_0⟩ := Kd.at_int HR0.out x13_1 p147 q147
    cases e147
    replace p147 := eq_true p147
    replace q147 := eq_true q147
    have p148 : 0 ≤ (x13_1 : Int) := od_
    have q148 : x13_1 < (l1.length : Int) := od_
    obtain ⟨ad148, e148, hx148_0⟩ := Kd.at_int HR1.out x13_1 p148 q148
    cases e148
    replace p148 := eq_true p148
    replace q148 := eq_true q148
    go_wp2
    repeat (go_quiet (fail); try go_wp2)
    go_ret
    exact ⟨fz_, dr_⟩
   rw [if_pos c8] at H
   have c8b0 : ((rd l0 x13_1) == (rd l1 x13_1)) = true := beq_iff_eq.mpr c8
   have c8b1 : ((rd l0 x13_1) != (rd l1 x13_1)) = false := bne_eq_false_iff_eq.mpr c8
   clear c8
   have H' := a_ H
   clear H
   have p147 : 0 ≤ (x13_1 : Int) := od_
   have q147 : x13_1 < (l0.length : Int) := od_
   obtain ⟨ad147, e147, hx147_0⟩ := Kd.at_int HR0.out x13_1 p147 q147
   cases e147
   replace p147 := eq_true p147
   replace q147 := eq_true q147
   have p148 : 0 ≤ (x13_1 : Int) := od_
   have q148 : x13_1 < (l1.length : Int) := od_
   obtain ⟨ad148, e148, hx148_0⟩ := Kd.at_int HR1.out x13_1 p148 q148
   cases e148
   replace p148 := eq_true p148
   replace q148 := eq_true q148
   go_wp2
   repeat (go_quiet (fail); try go_wp2)
   go_roundg k1
   case measure => have := HK1.out; omega
   case rel => exact ⟨(wrap64 (x13_1 + 1)), fz_, H', ⟨by have := HK1.out; omega⟩, dr_⟩
/-! ### gafferref03_SameEntry: function 65 -/
def gafferref03_SameEntry.f (k : Nat) (a0_0 : Int) (a0_1 : Int) (a0_2 : Int) (a0_3 : ByteArray) (l0_4 : List Int) (a1_0 : Int) (a1_1 : Int) (a1_2 : Int) (a1_3 : ByteArray) (l1_4 : List Int) : Option (Bool) := if a0_0 = a1_0 then (if a0_1 = a1_1 then (if a0_2 = a1_2 then (if a0_3.toList = a1_3.toList then ((gafferref03_SameInts.f k l0_4 l1_4).bind fun t151 => (some t151)) else (some false)) else (some false)) else (some false)) else (some false)
theorem gafferref03_SameEntry.mono : ∀ a0 a1 a2 a3 a4 a5 a6 a7 a8 a9 k, LeO (gafferref03_SameEntry.f k a0 a1 a2 a3 a4 a5 a6 a7 a8 a9) (gafferref03_SameEntry.f (k + 1) a0 a1 a2 a3 a4 a5 a6 a7 a8 a9) := by
 intro a0 a1 a2 a3 a4 a5 a6 a7 a8 a9 k
 unfold gafferref03_SameEntry.f
 repeat' with_reducible first | exact gafferref03_SameInts.mono _ _ _ | exact LeO.refl _ | exact LeO.none _ | refine LeO.ite ?_ ?_ | refine LeO.bind ?_ (fun _ => ?_)
theorem gafferref03_SameEntry.calls (k : Nat) (a0_0 : Int) (a0_1 : Int) (a0_2 : Int) (a0_3 : ByteArray) (A0_4 : Option Addr) (c0_4 : Nat) (l0_4 : List Int) (a1_0 : Int) (a1_1 : Int) (a1_2 : Int) (a1_3 : ByteArray) (A1_4 : Option Addr) (c1_4 : Nat) (l1_4 : List Int) (r : Bool) (w : World) (hr0_4 : Kd.C (Kd.int .i64) w A0_4 l0_4.length l0_4) (hc0_4 : l0_4.length ≤ c0_4) (hr1_4 : Kd.C (Kd.int .i64) w A1_4 l1_4.length l1_4) (hc1_4 : l1_4.length ≤ c1_4) (h : gafferref03_SameEntry.f k a0_0 a0_1 a0_2 a0_3 l0_4 a1_0 a1_1 a1_2 a1_3 l1_4 = some r) :
  Calls Try.prog 65 #[.agg #[.int .u64 a0_0, .int .u64 a0_1, .int .u8 a0_2, .string a0_3, .slice A0_4 l0_4.length c0_4], .agg #[.int .u64 a1_0, .int .u64 a1_1, .int .u8 a1_2, .string a1_3, .slice A1_4 l1_4.length c1_4]] w fun e w' => e = .returned (.bool r) ∧ Below w.heap.size w w' := by
 have hu67 := Try.underlying67
 have HR0_4 := a_ hr0_4
 have HC0_4 := a_ hc0_4
 clear hr0_4 hc0_4
 have HR1_4 := a_ hr1_4
 have HC1_4 := a_ hc1_4
 clear hr1_4 hc1_4
 have HB := a_ (Below.refl w.heap.size w)
 have H : (if a0_0 = a1_0 then (if a0_1 = a1_1 then (if a0_2 = a1_2 then (if a0_3.toList = a1_3.toList then ((gafferref03_SameInts.f k l0_4 l1_4).bind fun t151 => (some t151)) else (some false)) else (some false)) else (some false)) else (some false)) = some r := h
 clear h
 by_cases c3 : a0_0 = a1_0
 rotate_left
 ·rw [if_neg c3] at H
  have c3b0 : (a0_0 == a1_0) = false := beq_eq_false_iff_ne.mpr c3
  have c3b1 : (a0_0 != a1_0) = true := bne_iff_ne.mpr c3
  obtain rfl := Option.some.inj H
  go_enter Try.func65, Try.ntmps65
  go_wp2_with (first | ((with_reducible refine gd_ 2 ?_); refine bx_ 2 #[.int .u64 a0_0, .int .u64 a0_1, .int .u8 a0_2, .string a0_3, .slice A0_4 l0_4.length c0_4] 67 ?_; intro gb149 hg w28 hbox hb; have BK149 := a_ (hbox); have GE149 := a_ (bs_0 hg HB); replace HB := hB_ (bl_ HB) hb; clear hb hbox hg) | ((with_reducible refine gd_ 3 ?_); refine bx_ 3 #[.int .u64 a1_0, .int .u64 a1_1, .int .u8 a1_2, .string a1_3, .slice A1_4 l1_4.length c1_4] 67 ?_; intro gb150 hg w29 hbox hb; have BK150 := a_ (hbox); have GE150 := a_ (bs_1 hg HB GE149); replace HB := hB_ (bl_1 HB GE149) hb; have NB149_150 := nB_ hg BK149; have NB150_149 := nC_ hg BK149; replace BK149 := bB_ BK149 hb; clear hb hbox hg; have hnb30 := NB149_150.out; have hnc30 := NB150_149.out; obtain ⟨hcz31_0, hcz31_1, hcz31_2, hcz31_3, hcz31_4, hfz31_0, hfz31_1, hfz31_2, hfz31_3, hfz31_4⟩ := c5_ BK149; obtain ⟨hcz32_0, hcz32_1, hcz32_2, hcz32_3, hcz32_4, hfz32_0, hfz32_1, hfz32_2, hfz32_3, hfz32_4⟩ := c5_ BK150))
  go_ret
  exact ⟨fz_, bl_2 HB GE149 GE150⟩


 rw [if_pos c3] at H
 have c3b0 : (a0_0 == a1_0) = true := beq_iff_eq.mpr c3
 have c3b1 : (a0_0 != a1_0) = false := bne_eq_false_iff_eq.mpr c3
 clear c3
 by_cases c4 : a0_1 = a1_1
 rotate_left
 ·rw [if_neg c4] at H
  have c4b0 : (a0_1 == a1_1) = false := beq_eq_false_iff_ne.mpr c4
  have c4b1 : (a0_1 != a1_1) = true := bne_iff_ne.mpr c4
  obtain rfl := Option.some.inj H
  go_enter Try.func65, Try.ntmps65
  go_wp2_with (first | ((with_reducible refine gd_ 2 ?_); refine bx_ 2 #[.int .u64 a0_0, .int .u64 a0_1, .int .u8 a0_2, .string a0_3, .slice A0_4 l0_4.length c0_4] 67 ?_; intro gb149 hg w23 hbox hb; have BK149 := a_ (hbox); have GE149 := a_ (bs_0 hg HB); replace HB := hB_ (bl_ HB) hb; clear hb hbox hg) | ((with_reducible refine gd_ 3 ?_); refine bx_ 3 #[.int .u64 a1_0, .int .u64 a1_1, .int .u8 a1_2, .string a1_3, .slice A1_4 l1_4.length c1_4] 67 ?_; intro gb150 hg w24 hbox hb; have BK150 := a_ (hbox); have GE150 := a_ (bs_1 hg HB GE149); replace HB := hB_ (bl_1 HB GE149) hb; have NB149_150 := nB_ hg BK149; have NB150_149 := nC_ hg BK149; replace BK149 := bB_ BK149 hb; clear hb hbox hg; have hnb25 := NB149_150.out; have hnc25 := NB150_149.out; obtain ⟨hcz26_0, hcz26_1, hcz26_2, hcz26_3, hcz26_4, hfz26_0, hfz26_1, hfz26_2, hfz26_3, hfz26_4⟩ := c5_ BK149; obtain ⟨hcz27_0, hcz27_1, hcz27_2, hcz27_3, hcz27_4, hfz27_0, hfz27_1, hfz27_2, hfz27_3, hfz27_4⟩ := c5_ BK150))
  go_ret
  exact ⟨fz_, bl_2 HB GE149 GE150⟩
 rw [if_pos c4] at H
 have c4b0 : (a0_1 == a1_1) = true := beq_iff_eq.mpr c4
 have c4b1 : (a0_1 != a1_1) = false := bne_eq_false_iff_eq.mpr c4
 clear c4
 by_cases c5 : a0_2 = a1_2
 rotate_left
 ·rw [if_neg c5] at H
  have c5b0 : (a0_2 == a1_2) = false := beq_eq_false_iff_ne.mpr c5
  have c5b1 : (a0_2 != a1_2) = true := bne_iff_ne.mpr c5
  obtain rfl := Option.some.inj H
  go_enter Try.func65, Try.ntmps65
  go_wp2_with (first | ((with_reducible refine gd_ 2 ?_); refine bx_ 2 #[.int .u64 a0_0, .int .u64 a0_1, .int .u8 a0_2, .string a0_3, .slice A0_4 l0_4.length c0_4] 67 ?_; intro gb149 hg w18 hbox hb; have BK149 := a_ (hbox); have GE149 := a_ (bs_0 hg HB); replace HB := hB_ (bl_ HB) hb; clear hb hbox hg) | ((with_reducible refine gd_ 3 ?_); refine bx_ 3 #[.int .u64 a1_0, .int .u64 a1_1, .int .u8 a1_2, .string a1_3, .slice A1_4 l1_4.length c1_4] 67 ?_; intro gb150 hg w19 hbox hb; have BK150 := a_ (hbox); have GE150 := a_ (bs_1 hg HB GE149); replace HB := hB_ (bl_1 HB GE149) hb; have NB149_150 := nB_ hg BK149; have NB150_149 := nC_ hg BK149; replace BK149 := bB_ BK149 hb; clear hb hbox hg; have hnb20 := NB149_150.out; have hnc20 := NB150_149.out; obtain ⟨hcz21_0, hcz21_1, hcz21_2, hcz21_3, hcz21_4, hfz21_0, hfz21_1, hfz21_2, hfz21_3, hfz21_4⟩ := c5_ BK149; obtain ⟨hcz22_0, hcz22_1, hcz22_2, hcz22_3, hcz22_4, hfz22_0, hfz22_1, hfz22_2, hfz22_3, hfz22_4⟩ := c5_ BK150))
  go_ret
  exact ⟨fz_, bl_2 HB GE149 GE150⟩
 rw [if_pos c5] at H
 have c5b0 : (a0_2 == a1_2) = true := beq_iff_eq.mpr c5
 have c5b1 : (a0_2 != a1_2) = false := bne_eq_false_iff_eq.mpr c5
 clear c5
 by_cases c6 : a0_3.toList = a1_3.toList
 rotate_left
 ·rw [if_neg c6] at H
  have c6b0 : (a0_3.toList == a1_3.toList) = false := beq_eq_false_iff_ne.mpr c6
  have c6b1 : (a0_3.toList != a1_3.toList) = true := bne_iff_ne.mpr c6
  obtain rfl := Option.some.inj H
  go_enter Try.func65, Try.ntmps65
  go_wp2_with (first | ((with_reducible refine gd_ 2 ?_); refine bx_ 2 #[.int .u64 a0_0, .int .u64 a0_1, .int .u8 a0_2, .string a0_3, .slice A0_4 l0_4.length c0_4] 67 ?_; intro gb149 hg w13 hbox hb; have BK149 := a_ (hbox); have GE149 := a_ (bs_0 hg HB); replace HB := hB_ (bl_ HB) hb; clear hb hbox hg) | ((with_reducible refine gd_ 3 ?_); refine bx_ 3 #[.int .u64 a1_0, .int .u64 a1_1, .int .u8 a1_2, .string a1_3, .slice A1_4 l1_4.length c1_4] 67 ?_; intro gb150 hg w14 hbox hb; have BK150 := a_ (hbox); have GE150 := a_ (bs_1 hg HB GE149); replace HB := hB_ (bl_1 HB GE149) hb; have NB149_150 := nB_ hg BK149; have NB150_149 := nC_ hg BK149; replace BK149 := bB_ BK149 hb; clear hb hbox hg; have hnb15 := NB149_150.out; have hnc15 := NB150_149.out; obtain ⟨hcz16_0, hcz16_1, hcz16_2, hcz16_3, hcz16_4, hfz16_0, hfz16_1, hfz16_2, hfz16_3, hfz16_4⟩ := c5_ BK149; obtain ⟨hcz17_0, hcz17_1, hcz17_2, hcz17_3, hcz17_4, hfz17_0, hfz17_1, hfz17_2, hfz17_3, hfz17_4⟩ := c5_ BK150))
  go_ret
  exact ⟨fz_, bl_2 HB GE149 GE150⟩
 rw [if_pos c6] at H
 have c6b0 : (a0_3.toList == a1_3.toList) = true := beq_iff_eq.mpr c6
 have c6b1 : (a0_3.toList != a1_3.toList) = false := bne_eq_false_iff_eq.mpr c6
 clear c6
 obtain ⟨t151, A70, H⟩ := Option.bind_eq_some_iff.mp H
 try dsimp only at H
 have A7 := a_ A70
 clear A70
 obtain rfl := Option.some.inj H
 go_enter Try.func65, Try.ntmps65
 go_wp2_with (first | ((with_reducible refine gd_ 2 ?_); refine bx_ 2 #[.int .u64 a0_0, .int .u64 a0_1, .int .u8 a0_2, .string a0_3, .slice A0_4 l0_4.length c0_4] 67 ?_; intro gb149 hg w8 hbox hb; have BK149 := a_ (hbox); have GE149 := a_ (bs_0 hg HB); replace HB := hB_ (bl_ HB) hb; clear hb hbox hg) | ((with_reducible refine gd_ 3 ?_); refine bx_ 3 #[.int .u64 a1_0, .int .u64 a1_1, .int .u8 a1_2, .string a1_3, .slice A1_4 l1_4.length c1_4] 67 ?_; intro gb150 hg w9 hbox hb; have BK150 := a_ (hbox); have GE150 := a_ (bs_1 hg HB GE149); replace HB := hB_ (bl_1 HB GE149) hb; have NB149_150 := nB_ hg BK149; have NB150_149 := nC_ hg BK149; replace BK149 := bB_ BK149 hb; clear hb hbox hg; have hnb10 := NB149_150.out; have hnc10 := NB150_149.out; obtain ⟨hcz11_0, hcz11_1, hcz11_2, hcz11_3, hcz11_4, hfz11_0, hfz11_1, hfz11_2, hfz11_3, hfz11_4⟩ := c5_ BK149; obtain ⟨hcz12_0, hcz12_1, hcz12_2, hcz12_3, hcz12_4, hfz12_0, hfz12_1, hfz12_2, hfz12_3, hfz12_4⟩ := c5_ BK150) | (go_at_call 66; (with_reducible refine (gafferref03_SameInts.calls k _ _ l0_4 _ _ l1_4 t151 _ ?side1 ?side2 ?side3 ?side4 A7.out).mono ?_); (case side1 => exact cl_ (Kd.C_below HR0_4.out HB.out)); (case side2 => exact HC0_4.out); (case side3 => exact cl_ (Kd.C_below HR1_4.out HB.out)); (case side4 => exact HC1_4.out); rintro e w' ⟨rfl, ⟨nd, rfl⟩⟩))
 go_ret
 exact ⟨fz_, bl_2 HB GE149 GE150⟩
/-! ### gafferref03_Same: function 33 -/
def gafferref03_Same.l0 : Nat → List (S67) → List (S67) → Int → Int → Option (Bool)
 | 0, _, _, _, _ => none
 | k + 1, x0, x1, x12, x13 => if x13 < x12 then (if 0 ≤ x13 then (if x13 < (x0.length : Int) then (if x13 < (x1.length : Int) then ((gafferref03_SameEntry.f k ((rd_T67 x0 x13).f0) ((rd_T67 x0 x13).f1) ((rd_T67 x0 x13).f2) ((rd_T67 x0 x13).f3) ((rd_T67 x0 x13).f4) ((rd_T67 x1 x13).f0) ((rd_T67 x1 x13).f1) ((rd_T67 x1 x13).f2) ((rd_T67 x1 x13).f3) ((rd_T67 x1 x13).f4)).bind fun t154 => (if t154 = true then (gafferref03_Same.l0 k x0 x1 x12 (wrap64 (x13 + 1))) else (some false))) else (none)) else (none)) else (none)) else (some true)
def gafferref03_Same.f (k : Nat) (l0 : List (S67)) (l1 : List (S67)) : Option (Bool) := if (l0.length : Int) = (l1.length : Int) then (gafferref03_Same.l0 k l0 l1 (l0.length : Int) 0) else (some false)
theorem gafferref03_Same.mono_l : ∀ k, (∀ y0 y1 y2 y3, LeO (gafferref03_Same.l0 k y0 y1 y2 y3) (gafferref03_Same.l0 (k + 1) y0 y1 y2 y3))
 | 0 => fun _ _ _ _ r h => by simp [gafferref03_Same.l0] at h
 | k + 1 => by
  have ih0 := gafferref03_Same.mono_l k
  ·intro y0 y1 y2 y3
   unfold gafferref03_Same.l0
   repeat' with_reducible first | exact ih0 _ _ _ _ | exact gafferref03_SameEntry.mono _ _ _ _ _ _ _ _ _ _ _ | exact LeO.refl _ | exact LeO.none _ | refine LeO.ite ?_ ?_ | refine LeO.bind ?_ (fun _ => ?_)
theorem gafferref03_Same.mono : ∀ a0 a1 k, LeO (gafferref03_Same.f k a0 a1) (gafferref03_Same.f (k + 1) a0 a1) := by
 intro a0 a1 k
 have ih0 := gafferref03_Same.mono_l k
 unfold gafferref03_Same.f
 repeat' with_reducible first | exact ih0 _ _ _ _ | exact gafferref03_SameEntry.mono _ _ _ _ _ _ _ _ _ _ _ | exact LeO.refl _ | exact LeO.none _ | refine LeO.ite ?_ ?_ | refine LeO.bind ?_ (fun _ => ?_)
def gafferref03_Same.T6 : Bool × List (List Nat × List Nat) := (true, [([], []), ([], []), ([0, 1], [0, 1]), ([2], [2]), ([], []), ([], []), ([4, 5], [4, 5]), ([6], [6]), ([3, 7], [3, 7]), ([8], [8])])
def gafferref03_Same.B6 : List Nat := [0, 0, 3, 7, 0, 0, 48, 112, 255, 511]
theorem gafferref03_Same.tab6 : rtab .any (opsOf Try.f33 6) = gafferref03_Same.T6 := by kernel_rfl
theorem gafferref03_Same.bits6 : waitsOk gafferref03_Same.T6.2 gafferref03_Same.B6 = true := by kernel_rfl
theorem gafferref03_Same.calls (k : Nat) (A0 : Option Addr) (c0 : Nat) (l0 : List (S67)) (A1 : Option Addr) (c1 : Nat) (l1 : List (S67)) (r : Bool) (w : World) (hr0 : Kd.C k67 w A0 l0.length l0) (hc0 : l0.length ≤ c0) (hr1 : Kd.C k67 w A1 l1.length l1) (hc1 : l1.length ≤ c1) (h : gafferref03_Same.f k l0 l1 = some r) :
  Calls Try.prog 33 #[.slice A0 l0.length c0, .slice A1 l1.length c1] w fun e w' => e = .returned (.bool r) ∧ Below w.heap.size w w' := by
 have hu67 := Try.underlying67
 have HR0 := a_ hr0
 have HC0 := a_ hc0
 clear hr0 hc0
 have HR1 := a_ hr1
 have HC1 := a_ hc1
 clear hr1 hc1
 have HB := a_ (Below.refl w.heap.size w)
 have H : (if (l0.length : Int) = (l1.length : Int) then (gafferref03_Same.l0 k l0 l1 (l0.length : Int) 0) else (some false)) = some r := h
 clear h
 by_cases c3 : (l0.length : Int) = (l1.length : Int)
 rotate_left
 ·rw [if_neg c3] at H
  have c3b0 : ((l0.length : Int) == (l1.length : Int)) = false := beq_eq_false_iff_ne.mpr c3
  have c3b1 : ((l0.length : Int) != (l1.length : Int)) = true := bne_iff_ne.mpr c3
  have c3b2 : (l0.length == l1.length) = false := by first | simpa using c3 | (simp at c3 ⊢; omega)
  obtain rfl := Option.some.inj H
  go_enter Try.func33, Try.ntmps33
  go_wp2
  go_ret
  exact ⟨fz_, bl_ HB⟩


 rw [if_pos c3] at H
 have c3b0 : ((l0.length : Int) == (l1.length : Int)) = true := beq_iff_eq.mpr c3
 have c3b1 : ((l0.length : Int) != (l1.length : Int)) = false := bne_eq_false_iff_eq.mpr c3
 have c3b2 : (l0.length == l1.length) = true := by first | simpa using c3 | (simp at c3 ⊢; omega)
 clear c3
 have H' := a_ H
 clear H
 go_enter Try.func33, Try.ntmps33
 go_wp2
 go_loopg [13] k (fun kq v13 w' => ∃ (x13_1 : Int), v13 = .int .i64 x13_1 ∧ Aside0 (gafferref03_Same.l0 kq l0 l1 (l0.length : Int) x13_1 = some r) ∧ Aside0 (kq ≤ k) ∧ Aside0 (Below w.heap.size w w'))
 case atStart => exact ⟨(0), fz_, H', ⟨Nat.le_refl _⟩, ⟨bl_ HB⟩⟩
 case round =>
  clear H'
  try clear c1
  try clear p2
  try clear c3
  try clear c3b0
  try clear c3b1
  try clear c3b2
  obtain ⟨x13_1, rfl, HA, HK1, HB⟩ := hrel
  cases gk with
  | zero => exact absurd HA.out (by simp [gafferref03_Same.l0])
  | succ k1 =>
   have H := HA.out
   clear HA
   simp only [gafferref03_Same.l0] at H
   by_cases c4 : x13_1 < (l0.length : Int)
   rotate_left
   ·rw [if_neg c4] at H
    have c4b0 : decide (x13_1 < (l0.length : Int)) = false := decide_eq_false c4
    clear c4
    obtain rfl := Option.some.inj H
    go_wp2
    go_ret
    exact ⟨fz_, bl_ HB⟩
   rw [if_pos c4] at H
   have c4b0 : decide (x13_1 < (l0.length : Int)) = true := decide_eq_true c4
   clear c4
   by_cases c5 : 0 ≤ x13_1
   rotate_left
   ·rw [if_neg c5] at H
    exact absurd H (by simp)
   rw [if_pos c5] at H
   have c5b0 : decide (0 ≤ x13_1) = true := decide_eq_true c5
   clear c5
   by_cases c6 : x13_1 < (l0.length : Int)
   rotate_left
   ·rw [if_neg c6] at H
    exact absurd H (by simp)
   rw [if_pos c6] at H
   have c6b0 : decide (x13_1 < (l0.length : Int)) = true := decide_eq_true c6
   clear c6
   by_cases c7 : x13_1 < (l1.length : Int)
   rotate_left
   ·rw [if_neg c7] at H
    exact absurd H (by simp)
   rw [if_pos c7] at H
   have c7b0 : decide (x13_1 < (l1.length : Int)) = true := decide_eq_true c7
   clear c7
   obtain ⟨t154, A80, H⟩ := Option.bind_eq_some_iff.mp H
   try dsimp only at H
   have A8 := a_ A80
   clear A80
   by_cases c9 : t154 = true
   rotate_left
   ·replace c9 := Bool.eq_false_iff.mpr c9
    subst c9
    have H1 : (some false) = some r := by rw [if_neg (show ¬ (false = true) by decide)] at H; exact H
    clear H
    have H := H1
    clear H1
    obtain rfl := Option.some.inj H
    try go_wp2
    have n0_ := a_ (below_drew1 HB.out)
    clear HB
    have HB := n0_
    clear n0_
    have p152 : 0 ≤ (x13_1 : Int) := od_
    have q152 : x13_1 < (l0.length : Int) := od_
    obtain ⟨ad152, A152_4, c152_4, e152, hx152_0, hx152_1, hx152_2, hx152_3, hx152_4, hl152_4, hi152_4⟩ := at_T67 HR0.out x13_1 p152 q152
    have hw152_4 := hx152_4
    have hw152_3 := hx152_3
    have hw152_2 := hx152_2
    have hw152_1 := hx152_1
    have hw152_0 := hx152_0
    cases e152
    replace hx152_0 := hc_ HB hx152_0
    replace hx152_1 := hc_ HB hx152_1
    replace hx152_2 := hc_ HB hx152_2
    replace hx152_3 := hc_ HB hx152_3
    replace hx152_4 := hc_ HB hx152_4
    have HR152_4 := a_ hi152_4
    have HC152_4 := a_ hl152_4
    clear hi152_4 hl152_4
    replace p152 := eq_true p152
    replace q152 := eq_true q152
    have p153 : 0 ≤ (x13_1 : Int) := od_
    have q153 : x13_1 < (l1.length : Int) := od_
    obtain ⟨ad153, A153_4, c153_4, e153, hx153_0, hx153_1, hx153_2, hx153_3, hx153_4, hl153_4, hi153_4⟩ := at_T67 HR1.out x13_1 p153 q153
    have hw153_4 := hx153_4
    have hw153_3 := hx153_3
    have hw153_2 := hx153_2
    have hw153_1 := hx153_1
    have hw153_0 := hx153_0
    cases e153
    replace hx153_0 := hc_ HB hx153_0
    replace hx153_1 := hc_ HB hx153_1
    replace hx153_2 := hc_ HB hx153_2
    replace hx153_3 := hc_ HB hx153_3
    replace hx153_4 := hc_ HB hx153_4
    have HR153_4 := a_ hi153_4
    have HC153_4 := a_ hl153_4
    clear hi153_4 hl153_4
    replace p153 := eq_true p153
    replace q153 := eq_true q153
    refine start_ (n := 10) (S := fun w' => w'.cell? (ad152.add ((x13_1).toNat * 5)) = some (.int .u64 ((rd_T67 l0 x13_1).f0)) ∧ w'.cell? ⟨(ad152.add ((x13_1).toNat * 5)).block, (ad152.add ((x13_1).toNat * 5)).off + 1, none⟩ = some (.int .u64 ((rd_T67 l0 x13_1).f1)) ∧ w'.cell? ⟨(ad152.add ((x13_1).toNat * 5)).block, (ad152.add ((x13_1).toNat * 5)).off + 2, none⟩ = some (.int .u8 ((rd_T67 l0 x13_1).f2)) ∧ w'.cell? ⟨(ad152.add ((x13_1).toNat * 5)).block, (ad152.add ((x13_1).toNat * 5)).off + 3, none⟩ = some (.string ((rd_T67 l0 x13_1).f3)) ∧ w'.cell? ⟨(ad152.add ((x13_1).toNat * 5)).block, (ad152.add ((x13_1).toNat * 5)).off + 4, none⟩ = some (.slice A152_4 ((rd_T67 l0 x13_1).f4).length c152_4) ∧ w'.cell? (ad153.add ((x13_1).toNat * 5)) = some (.int .u64 ((rd_T67 l1 x13_1).f0)) ∧ w'.cell? ⟨(ad153.add ((x13_1).toNat * 5)).block, (ad153.add ((x13_1).toNat * 5)).off + 1, none⟩ = some (.int .u64 ((rd_T67 l1 x13_1).f1)) ∧ w'.cell? ⟨(ad153.add ((x13_1).toNat * 5)).block, (ad153.add ((x13_1).toNat * 5)).off + 2, none⟩ = some (.int .u8 ((rd_T67 l1 x13_1).f2)) ∧ w'.cell? ⟨(ad153.add ((x13_1).toNat * 5)).block, (ad153.add ((x13_1).toNat * 5)).off + 3, none⟩ = some (.string ((rd_T67 l1 x13_1).f3)) ∧ w'.cell? ⟨(ad153.add ((x13_1).toNat * 5)).block, (ad153.add ((x13_1).toNat * 5)).off + 4, none⟩ = some (.slice A153_4 ((rd_T67 l1 x13_1).f4).length c153_4)) (ds := []) #[false, false, false, false, false, false, false, false, false, false] (by kernel_rfl) rfl rfl ⟨((HB.out.cell (World.block_lt_of_cell? w _ hw152_0)).trans hw152_0), ((HB.out.cell (World.block_lt_of_cell? w _ hw152_1)).trans hw152_1), ((HB.out.cell (World.block_lt_of_cell? w _ hw152_2)).trans hw152_2), ((HB.out.cell (World.block_lt_of_cell? w _ hw152_3)).trans hw152_3), ((HB.out.cell (World.block_lt_of_cell? w _ hw152_4)).trans hw152_4), ((HB.out.cell (World.block_lt_of_cell? w _ hw153_0)).trans hw153_0), ((HB.out.cell (World.block_lt_of_cell? w _ hw153_1)).trans hw153_1), ((HB.out.cell (World.block_lt_of_cell? w _ hw153_2)).trans hw153_2), ((HB.out.cell (World.block_lt_of_cell? w _ hw153_3)).trans hw153_3), ((HB.out.cell (World.block_lt_of_cell? w _ hw153_4)).trans hw153_4)⟩ (fun hHeld => ?_); refine with_tabW gafferref03_Same.tab6 gafferref03_Same.bits6 (fun HT_ HW_ => ?_)
    generalize wr.drew = w12 at HB HR152_4 HR153_4 hx152_0 hx152_1 hx152_2 hx152_3 hx152_4 hx153_0 hx153_1 hx153_2 hx153_3 hx153_4 hHeld ⊢
    refine pu_ HT_ 0 (some 16) ?_
    refine pu_ HT_ 1 (some 17) ?_
    refine pu_ HT_ 2 (some 18) ?_
    refine pu_ HT_ 4 (some 20) ?_
    refine pu_ HT_ 5 (some 21) ?_
    refine pu_ HT_ 6 (some 22) ?_
    refine take_ (i := 3) (N := some 19) (v := ?_) (a' := ?_) #[true, true, true, true, true, true, true, false, false, false] rfl rfl (take_ofW HT_.out HW_.out (by kernel_rfl)) (fun _ _ _ h => h) (Or.inl ⟨by rfl, ?_⟩) hHeld ?_ ?_
    rotate_left
    ·rintro w' ⟨s0, s1, s2, s3, s4, s5, s6, s7, s8, s9⟩
     go_simp
     with_reducible rfl
    rotate_left
    ·exact ap_
    refine take_ (i := 7) (N := some 23) (v := ?_) (a' := ?_) #[true, true, true, true, true, true, true, true, false, false] rfl rfl (take_ofW HT_.out HW_.out (by kernel_rfl)) (fun _ _ _ h => h) (Or.inl ⟨by rfl, ?_⟩) hHeld ?_ ?_
    rotate_left
    ·rintro w' ⟨s0, s1, s2, s3, s4, s5, s6, s7, s8, s9⟩
     go_simp
     with_reducible rfl
    rotate_left
    ·exact ap_
    refine one_ (i := 8) (N := some 24) #[true, true, true, true, true, true, true, true, true, false] rfl rfl (one_of HT_.out (by kernel_rfl)) (by decide) (fun K hK => ?_)
    refine goes_ Try.func65 (by kernel_rfl) rfl #[.agg #[.int .u64 ((rd_T67 l0 x13_1).f0), .int .u64 ((rd_T67 l0 x13_1).f1), .int .u8 ((rd_T67 l0 x13_1).f2), .string ((rd_T67 l0 x13_1).f3), .slice A152_4 ((rd_T67 l0 x13_1).f4).length c152_4], .agg #[.int .u64 ((rd_T67 l1 x13_1).f0), .int .u64 ((rd_T67 l1 x13_1).f1), .int .u8 ((rd_T67 l1 x13_1).f2), .string ((rd_T67 l1 x13_1).f3), .slice A153_4 ((rd_T67 l1 x13_1).f4).length c153_4]] (by rfl) rfl rfl (ar_) ?_
    with_reducible refine (gafferref03_SameEntry.calls k1 ((rd_T67 l0 x13_1).f0) ((rd_T67 l0 x13_1).f1) ((rd_T67 l0 x13_1).f2) ((rd_T67 l0 x13_1).f3) _ _ ((rd_T67 l0 x13_1).f4) ((rd_T67 l1 x13_1).f0) ((rd_T67 l1 x13_1).f1) ((rd_T67 l1 x13_1).f2) ((rd_T67 l1 x13_1).f3) _ _ ((rd_T67 l1 x13_1).f4) false _ ?side1 ?side2 ?side3 ?side4 A8.out).mono ?_
    (case side1 => exact cl_ (Kd.C_below HR152_4.out HB.out))
    (case side2 => exact HC152_4.out)
    (case side3 => exact cl_ (Kd.C_below HR153_4.out HB.out))
    (case side4 => exact HC153_4.out)
    rintro e w13 ⟨rfl, hb⟩
    refine ⟨_, rfl, ?_⟩
    have n0_ := hB_ (bl_ HB) hb
    clear HB
    have HB := n0_
    clear n0_
    (try clear hb)
    (try clear hb2)
    (try clear hk)
    (try clear hi)
    refine hK.out _ _ ⟨((HB.out.cell (World.block_lt_of_cell? w _ hw152_0)).trans hw152_0), ((HB.out.cell (World.block_lt_of_cell? w _ hw152_1)).trans hw152_1), ((HB.out.cell (World.block_lt_of_cell? w _ hw152_2)).trans hw152_2), ((HB.out.cell (World.block_lt_of_cell? w _ hw152_3)).trans hw152_3), ((HB.out.cell (World.block_lt_of_cell? w _ hw152_4)).trans hw152_4), ((HB.out.cell (World.block_lt_of_cell? w _ hw153_0)).trans hw153_0), ((HB.out.cell (World.block_lt_of_cell? w _ hw153_1)).trans hw153_1), ((HB.out.cell (World.block_lt_of_cell? w _ hw153_2)).trans hw153_2), ((HB.out.cell (World.block_lt_of_cell? w _ hw153_3)).trans hw153_3), ((HB.out.cell (World.block_lt_of_cell? w _ hw153_4)).trans hw153_4)⟩ (fun hHeld => ?_)
    clear hK K
    refine norm_ (a' := ?_) ?_ ?_
    rotate_left
    ·show Act.put _ (some 24) _ = _
     simp only [Act.put, List.setIfInBounds_toArray, List.set_cons_zero, List.set_cons_succ, i64_w, i32_w]
     rfl
    refine pu_ HT_ 9 (some 25) ?_
    refine done_ (done_of HT_.out (by kernel_rfl)) ?_
    try go_wp2
    go_ret
    exact ⟨fz_, bl_ HB⟩
   subst c9
   have H1 : (gafferref03_Same.l0 k1 l0 l1 (l0.length : Int) (wrap64 (x13_1 + 1))) = some r := by rw [if_pos rfl] at H; exact H
   clear H
   have H := H1
   clear H1
   have H' := a_ H
   clear H
   try go_wp2
   have n0_ := a_ (below_drew1 HB.out)
   clear HB
   have HB := n0_
   clear n0_
   have p152 : 0 ≤ (x13_1 : Int) := od_
   have q152 : x13_1 < (l0.length : Int) := od_
   obtain ⟨ad152, A152_4, c152_4, e152, hx152_0, hx152_1, hx152_2, hx152_3, hx152_4, hl152_4, hi152_4⟩ := at_T67 HR0.out x13_1 p152 q152
   have hw152_4 := hx152_4
   have hw152_3 := hx152_3
   have hw152_2 := hx152_2
   have hw152_1 := hx152_1
   have hw152_0 := hx152_0
   cases e152
   replace hx152_0 := hc_ HB hx152_0
   replace hx152_1 := hc_ HB hx152_1
   replace hx152_2 := hc_ HB hx152_2
   replace hx152_3 := hc_ HB hx152_3
   replace hx152_4 := hc_ HB hx152_4
   have HR152_4 := a_ hi152_4
   have HC152_4 := a_ hl152_4
   clear hi152_4 hl152_4
   replace p152 := eq_true p152
   replace q152 := eq_true q152
   have p153 : 0 ≤ (x13_1 : Int) := od_
   have q153 : x13_1 < (l1.length : Int) := od_
   obtain ⟨ad153, A153_4, c153_4, e153, hx153_0, hx153_1, hx153_2, hx153_3, hx153_4, hl153_4, hi153_4⟩ := at_T67 HR1.out x13_1 p153 q153
   have hw153_4 := hx153_4
   have hw153_3 := hx153_3
   have hw153_2 := hx153_2
   have hw153_1 := hx153_1
   have hw153_0 := hx153_0
   cases e153
   replace hx153_0 := hc_ HB hx153_0
   replace hx153_1 := hc_ HB hx153_1
   replace hx153_2 := hc_ HB hx153_2
   replace hx153_3 := hc_ HB hx153_3
   replace hx153_4 := hc_ HB hx153_4
   have HR153_4 := a_ hi153_4
   have HC153_4 := a_ hl153_4
   clear hi153_4 hl153_4
   replace p153 := eq_true p153
   replace q153 := eq_true q153
   refine start_ (n := 10) (S := fun w' => w'.cell? (ad152.add ((x13_1).toNat * 5)) = some (.int .u64 ((rd_T67 l0 x13_1).f0)) ∧ w'.cell? ⟨(ad152.add ((x13_1).toNat * 5)).block, (ad152.add ((x13_1).toNat * 5)).off + 1, none⟩ = some (.int .u64 ((rd_T67 l0 x13_1).f1)) ∧ w'.cell? ⟨(ad152.add ((x13_1).toNat * 5)).block, (ad152.add ((x13_1).toNat * 5)).off + 2, none⟩ = some (.int .u8 ((rd_T67 l0 x13_1).f2)) ∧ w'.cell? ⟨(ad152.add ((x13_1).toNat * 5)).block, (ad152.add ((x13_1).toNat * 5)).off + 3, none⟩ = some (.string ((rd_T67 l0 x13_1).f3)) ∧ w'.cell? ⟨(ad152.add ((x13_1).toNat * 5)).block, (ad152.add ((x13_1).toNat * 5)).off + 4, none⟩ = some (.slice A152_4 ((rd_T67 l0 x13_1).f4).length c152_4) ∧ w'.cell? (ad153.add ((x13_1).toNat * 5)) = some (.int .u64 ((rd_T67 l1 x13_1).f0)) ∧ w'.cell? ⟨(ad153.add ((x13_1).toNat * 5)).block, (ad153.add ((x13_1).toNat * 5)).off + 1, none⟩ = some (.int .u64 ((rd_T67 l1 x13_1).f1)) ∧ w'.cell? ⟨(ad153.add ((x13_1).toNat * 5)).block, (ad153.add ((x13_1).toNat * 5)).off + 2, none⟩ = some (.int .u8 ((rd_T67 l1 x13_1).f2)) ∧ w'.cell? ⟨(ad153.add ((x13_1).toNat * 5)).block, (ad153.add ((x13_1).toNat * 5)).off + 3, none⟩ = some (.string ((rd_T67 l1 x13_1).f3)) ∧ w'.cell? ⟨(ad153.add ((x13_1).toNat * 5)).block, (ad153.add ((x13_1).toNat * 5)).off + 4, none⟩ = some (.slice A153_4 ((rd_T67 l1 x13_1).f4).length c153_4)) (ds := []) #[false, false, false, false, false, false, false, false, false, false] (by kernel_rfl) rfl rfl ⟨((HB.out.cell (World.block_lt_of_cell? w _ hw152_0)).trans hw152_0), ((HB.out.cell (World.block_lt_of_cell? w _ hw152_1)).trans hw152_1), ((HB.out.cell (World.block_lt_of_cell? w _ hw152_2)).trans hw152_2), ((HB.out.cell (World.block_lt_of_cell? w _ hw152_3)).trans hw152_3), ((HB.out.cell (World.block_lt_of_cell? w _ hw152_4)).trans hw152_4), ((HB.out.cell (World.block_lt_of_cell? w _ hw153_0)).trans hw153_0), ((HB.out.cell (World.block_lt_of_cell? w _ hw153_1)).trans hw153_1), ((HB.out.cell (World.block_lt_of_cell? w _ hw153_2)).trans hw153_2), ((HB.out.cell (World.block_lt_of_cell? w _ hw153_3)).trans hw153_3), ((HB.out.cell (World.block_lt_of_cell? w _ hw153_4)).trans hw153_4)⟩ (fun hHeld => ?_); refine with_tabW gafferref03_Same.tab6 gafferref03_Same.bits6 (fun HT_ HW_ => ?_)
   generalize wr.drew = w10 at HB HR152_4 HR153_4 hx152_0 hx152_1 hx152_2 hx152_3 hx152_4 hx153_0 hx153_1 hx153_2 hx153_3 hx153_4 hHeld ⊢
   refine pu_ HT_ 0 (some 16) ?_
   refine pu_ HT_ 1 (some 17) ?_
   refine pu_ HT_ 2 (some 18) ?_
   refine pu_ HT_ 4 (some 20) ?_
   refine pu_ HT_ 5 (some 21) ?_
   refine pu_ HT_ 6 (some 22) ?_
   refine take_ (i := 3) (N := some 19) (v := ?_) (a' := ?_) #[true, true, true, true, true, true, true, false, false, false] rfl rfl (take_ofW HT_.out HW_.out (by kernel_rfl)) (fun _ _ _ h => h) (Or.inl ⟨by rfl, ?_⟩) hHeld ?_ ?_
   rotate_left
   ·rintro w' ⟨s0, s1, s2, s3, s4, s5, s6, s7, s8, s9⟩
    go_simp
    with_reducible rfl
   rotate_left
   ·exact ap_
   refine take_ (i := 7) (N := some 23) (v := ?_) (a' := ?_) #[true, true, true, true, true, true, true, true, false, false] rfl rfl (take_ofW HT_.out HW_.out (by kernel_rfl)) (fun _ _ _ h => h) (Or.inl ⟨by rfl, ?_⟩) hHeld ?_ ?_
   rotate_left
   ·rintro w' ⟨s0, s1, s2, s3, s4, s5, s6, s7, s8, s9⟩
    go_simp
    with_reducible rfl
   rotate_left
   ·exact ap_
   refine one_ (i := 8) (N := some 24) #[true, true, true, true, true, true, true, true, true, false] rfl rfl (one_of HT_.out (by kernel_rfl)) (by decide) (fun K hK => ?_)
   refine goes_ Try.func65 (by kernel_rfl) rfl #[.agg #[.int .u64 ((rd_T67 l0 x13_1).f0), .int .u64 ((rd_T67 l0 x13_1).f1), .int .u8 ((rd_T67 l0 x13_1).f2), .string ((rd_T67 l0 x13_1).f3), .slice A152_4 ((rd_T67 l0 x13_1).f4).length c152_4], .agg #[.int .u64 ((rd_T67 l1 x13_1).f0), .int .u64 ((rd_T67 l1 x13_1).f1), .int .u8 ((rd_T67 l1 x13_1).f2), .string ((rd_T67 l1 x13_1).f3), .slice A153_4 ((rd_T67 l1 x13_1).f4).length c153_4]] (by rfl) rfl rfl (ar_) ?_
   with_reducible refine (gafferref03_SameEntry.calls k1 ((rd_T67 l0 x13_1).f0) ((rd_T67 l0 x13_1).f1) ((rd_T67 l0 x13_1).f2) ((rd_T67 l0 x13_1).f3) _ _ ((rd_T67 l0 x13_1).f4) ((rd_T67 l1 x13_1).f0) ((rd_T67 l1 x13_1).f1) ((rd_T67 l1 x13_1).f2) ((rd_T67 l1 x13_1).f3) _ _ ((rd_T67 l1 x13_1).f4) true _ ?side1 ?side2 ?side3 ?side4 A8.out).mono ?_
   (case side1 => exact cl_ (Kd.C_below HR152_4.out HB.out))
   (case side2 => exact HC152_4.out)
   (case side3 => exact cl_ (Kd.C_below HR153_4.out HB.out))
   (case side4 => exact HC153_4.out)
   rintro e w11 ⟨rfl, hb⟩
   refine ⟨_, rfl, ?_⟩
   have n0_ := hB_ (bl_ HB) hb
   clear HB
   have HB := n0_
   clear n0_
   (try clear hb)
   (try clear hb2)
   (try clear hk)
   (try clear hi)
   refine hK.out _ _ ⟨((HB.out.cell (World.block_lt_of_cell? w _ hw152_0)).trans hw152_0), ((HB.out.cell (World.block_lt_of_cell? w _ hw152_1)).trans hw152_1), ((HB.out.cell (World.block_lt_of_cell? w _ hw152_2)).trans hw152_2), ((HB.out.cell (World.block_lt_of_cell? w _ hw152_3)).trans hw152_3), ((HB.out.cell (World.block_lt_of_cell? w _ hw152_4)).trans hw152_4), ((HB.out.cell (World.block_lt_of_cell? w _ hw153_0)).trans hw153_0), ((HB.out.cell (World.block_lt_of_cell? w _ hw153_1)).trans hw153_1), ((HB.out.cell (World.block_lt_of_cell? w _ hw153_2)).trans hw153_2), ((HB.out.cell (World.block_lt_of_cell? w _ hw153_3)).trans hw153_3), ((HB.out.cell (World.block_lt_of_cell? w _ hw153_4)).trans hw153_4)⟩ (fun hHeld => ?_)
   clear hK K
   refine norm_ (a' := ?_) ?_ ?_
   rotate_left
   ·show Act.put _ (some 24) _ = _
    simp only [Act.put, List.setIfInBounds_toArray, List.set_cons_zero, List.set_cons_succ, i64_w, i32_w]
    rfl
   refine pu_ HT_ 9 (some 25) ?_
   refine done_ (done_of HT_.out (by kernel_rfl)) ?_
   try go_wp2
   go_roundg k1
   case measure => have := HK1.out; omega
   case rel => exact ⟨(wrap64 (x13_1 + 1)), fz_, H', ⟨by have := HK1.out; omega⟩, ⟨bl_ HB⟩⟩
/-! ### gafferref05_Same: function 34 -/
def gafferref05_Same.f (k : Nat) (a0_0 : Int) (a0_1 : Int) (l0_2 : List Int) (a0_3 : ByteArray) (a1_0 : Int) (a1_1 : Int) (l1_2 : List Int) (a1_3 : ByteArray) : Option (Bool) := if a0_0 = a1_0 then (if a0_1 = a1_1 then (if a0_3.toList = a1_3.toList then ((gafferref03_SameInts.f k l0_2 l1_2).bind fun t157 => (some t157)) else (some false)) else (some false)) else (some false)
theorem gafferref05_Same.mono : ∀ a0 a1 a2 a3 a4 a5 a6 a7 k, LeO (gafferref05_Same.f k a0 a1 a2 a3 a4 a5 a6 a7) (gafferref05_Same.f (k + 1) a0 a1 a2 a3 a4 a5 a6 a7) := by
 intro a0 a1 a2 a3 a4 a5 a6 a7 k
 unfold gafferref05_Same.f
 repeat' with_reducible first | exact gafferref03_SameInts.mono _ _ _ | exact LeO.refl _ | exact LeO.none _ | refine LeO.ite ?_ ?_ | refine LeO.bind ?_ (fun _ => ?_)
theorem gafferref05_Same.calls (k : Nat) (a0_0 : Int) (a0_1 : Int) (A0_2 : Option Addr) (c0_2 : Nat) (l0_2 : List Int) (a0_3 : ByteArray) (a1_0 : Int) (a1_1 : Int) (A1_2 : Option Addr) (c1_2 : Nat) (l1_2 : List Int) (a1_3 : ByteArray) (r : Bool) (w : World) (hr0_2 : Kd.C (Kd.int .i64) w A0_2 l0_2.length l0_2) (hc0_2 : l0_2.length ≤ c0_2) (hr1_2 : Kd.C (Kd.int .i64) w A1_2 l1_2.length l1_2) (hc1_2 : l1_2.length ≤ c1_2) (h : gafferref05_Same.f k a0_0 a0_1 l0_2 a0_3 a1_0 a1_1 l1_2 a1_3 = some r) :
  Calls Try.prog 34 #[.agg #[.int .u64 a0_0, .int .u64 a0_1, .slice A0_2 l0_2.length c0_2, .string a0_3], .agg #[.int .u64 a1_0, .int .u64 a1_1, .slice A1_2 l1_2.length c1_2, .string a1_3]] w fun e w' => e = .returned (.bool r) ∧ Below w.heap.size w w' := by
 have hu35 := Try.underlying35
 have HR0_2 := a_ hr0_2
 have HC0_2 := a_ hc0_2
 clear hr0_2 hc0_2
 have HR1_2 := a_ hr1_2
 have HC1_2 := a_ hc1_2
 clear hr1_2 hc1_2
 have HB := a_ (Below.refl w.heap.size w)
 have H : (if a0_0 = a1_0 then (if a0_1 = a1_1 then (if a0_3.toList = a1_3.toList then ((gafferref03_SameInts.f k l0_2 l1_2).bind fun t157 => (some t157)) else (some false)) else (some false)) else (some false)) = some r := h
 clear h
 by_cases c3 : a0_0 = a1_0
 rotate_left
 ·rw [if_neg c3] at H
  have c3b0 : (a0_0 == a1_0) = false := beq_eq_false_iff_ne.mpr c3
  have c3b1 : (a0_0 != a1_0) = true := bne_iff_ne.mpr c3
  obtain rfl := Option.some.inj H
  go_enter Try.func34, Try.ntmps34
  go_wp2_with (first | ((with_reducible refine gd_ 2 ?_); refine bx_ 2 #[.int .u64 a0_0, .int .u64 a0_1, .slice A0_2 l0_2.length c0_2, .string a0_3] 35 ?_; intro gb155 hg w22 hbox hb; have BK155 := a_ (hbox); have GE155 := a_ (bs_0 hg HB); replace HB := hB_ (bl_ HB) hb; clear hb hbox hg) | ((with_reducible refine gd_ 3 ?_); refine bx_ 3 #[.int .u64 a1_0, .int .u64 a1_1, .slice A1_2 l1_2.length c1_2, .string a1_3] 35 ?_; intro gb156 hg w23 hbox hb; have BK156 := a_ (hbox); have GE156 := a_ (bs_1 hg HB GE155); replace HB := hB_ (bl_1 HB GE155) hb; have NB155_156 := nB_ hg BK155; have NB156_155 := nC_ hg BK155; replace BK155 := bB_ BK155 hb; clear hb hbox hg; have hnb24 := NB155_156.out; have hnc24 := NB156_155.out; obtain ⟨hcz25_0, hcz25_1, hcz25_2, hcz25_3, hfz25_0, hfz25_1, hfz25_2, hfz25_3⟩ := c4_ BK155; obtain ⟨hcz26_0, hcz26_1, hcz26_2, hcz26_3, hfz26_0, hfz26_1, hfz26_2, hfz26_3⟩ := c4_ BK156))
  go_ret
  exact ⟨fz_, bl_2 HB GE155 GE156⟩


 rw [if_pos c3] at H
 have c3b0 : (a0_0 == a1_0) = true := beq_iff_eq.mpr c3
 have c3b1 : (a0_0 != a1_0) = false := bne_eq_false_iff_eq.mpr c3
 clear c3
 by_cases c4 : a0_1 = a1_1
 rotate_left
 ·rw [if_neg c4] at H
  have c4b0 : (a0_1 == a1_1) = false := beq_eq_false_iff_ne.mpr c4
  have c4b1 : (a0_1 != a1_1) = true := bne_iff_ne.mpr c4
  obtain rfl := Option.some.inj H
  go_enter Try.func34, Try.ntmps34
  go_wp2_with (first | ((with_reducible refine gd_ 2 ?_); refine bx_ 2 #[.int .u64 a0_0, .int .u64 a0_1, .slice A0_2 l0_2.length c0_2, .string a0_3] 35 ?_; intro gb155 hg w17 hbox hb; have BK155 := a_ (hbox); have GE155 := a_ (bs_0 hg HB); replace HB := hB_ (bl_ HB) hb; clear hb hbox hg) | ((with_reducible refine gd_ 3 ?_); refine bx_ 3 #[.int .u64 a1_0, .int .u64 a1_1, .slice A1_2 l1_2.length c1_2, .string a1_3] 35 ?_; intro gb156 hg w18 hbox hb; have BK156 := a_ (hbox); have GE156 := a_ (bs_1 hg HB GE155); replace HB := hB_ (bl_1 HB GE155) hb; have NB155_156 := nB_ hg BK155; have NB156_155 := nC_ hg BK155; replace BK155 := bB_ BK155 hb; clear hb hbox hg; have hnb19 := NB155_156.out; have hnc19 := NB156_155.out; obtain ⟨hcz20_0, hcz20_1, hcz20_2, hcz20_3, hfz20_0, hfz20_1, hfz20_2, hfz20_3⟩ := c4_ BK155; obtain ⟨hcz21_0, hcz21_1, hcz21_2, hcz21_3, hfz21_0, hfz21_1, hfz21_2, hfz21_3⟩ := c4_ BK156))
  go_ret
  exact ⟨fz_, bl_2 HB GE155 GE156⟩
 rw [if_pos c4] at H
 have c4b0 : (a0_1 == a1_1) = true := beq_iff_eq.mpr c4
 have c4b1 : (a0_1 != a1_1) = false := bne_eq_false_iff_eq.mpr c4
 clear c4
 by_cases c5 : a0_3.toList = a1_3.toList
 rotate_left
 ·rw [if_neg c5] at H
  have c5b0 : (a0_3.toList == a1_3.toList) = false := beq_eq_false_iff_ne.mpr c5
  have c5b1 : (a0_3.toList != a1_3.toList) = true := bne_iff_ne.mpr c5
  obtain rfl := Option.some.inj H
  go_enter Try.func34, Try.ntmps34
  go_wp2_with (first | ((with_reducible refine gd_ 2 ?_); refine bx_ 2 #[.int .u64 a0_0, .int .u64 a0_1, .slice A0_2 l0_2.length c0_2, .string a0_3] 35 ?_; intro gb155 hg w12 hbox hb; have BK155 := a_ (hbox); have GE155 := a_ (bs_0 hg HB); replace HB := hB_ (bl_ HB) hb; clear hb hbox hg) | ((with_reducible refine gd_ 3 ?_); refine bx_ 3 #[.int .u64 a1_0, .int .u64 a1_1, .slice A1_2 l1_2.length c1_2, .string a1_3] 35 ?_; intro gb156 hg w13 hbox hb; have BK156 := a_ (hbox); have GE156 := a_ (bs_1 hg HB GE155); replace HB := hB_ (bl_1 HB GE155) hb; have NB155_156 := nB_ hg BK155; have NB156_155 := nC_ hg BK155; replace BK155 := bB_ BK155 hb; clear hb hbox hg; have hnb14 := NB155_156.out; have hnc14 := NB156_155.out; obtain ⟨hcz15_0, hcz15_1, hcz15_2, hcz15_3, hfz15_0, hfz15_1, hfz15_2, hfz15_3⟩ := c4_ BK155; obtain ⟨hcz16_0, hcz16_1, hcz16_2, hcz16_3, hfz16_0, hfz16_1, hfz16_2, hfz16_3⟩ := c4_ BK156))
  go_ret
  exact ⟨fz_, bl_2 HB GE155 GE156⟩
 rw [if_pos c5] at H
 have c5b0 : (a0_3.toList == a1_3.toList) = true := beq_iff_eq.mpr c5
 have c5b1 : (a0_3.toList != a1_3.toList) = false := bne_eq_false_iff_eq.mpr c5
 clear c5
 obtain ⟨t157, A60, H⟩ := Option.bind_eq_some_iff.mp H
 try dsimp only at H
 have A6 := a_ A60
 clear A60
 obtain rfl := Option.some.inj H
 go_enter Try.func34, Try.ntmps34
 go_wp2_with (first | ((with_reducible refine gd_ 2 ?_); refine bx_ 2 #[.int .u64 a0_0, .int .u64 a0_1, .slice A0_2 l0_2.length c0_2, .string a0_3] 35 ?_; intro gb155 hg w7 hbox hb; have BK155 := a_ (hbox); have GE155 := a_ (bs_0 hg HB); replace HB := hB_ (bl_ HB) hb; clear hb hbox hg) | ((with_reducible refine gd_ 3 ?_); refine bx_ 3 #[.int .u64 a1_0, .int .u64 a1_1, .slice A1_2 l1_2.length c1_2, .string a1_3] 35 ?_; intro gb156 hg w8 hbox hb; have BK156 := a_ (hbox); have GE156 := a_ (bs_1 hg HB GE155); replace HB := hB_ (bl_1 HB GE155) hb; have NB155_156 := nB_ hg BK155; have NB156_155 := nC_ hg BK155; replace BK155 := bB_ BK155 hb; clear hb hbox hg; have hnb9 := NB155_156.out; have hnc9 := NB156_155.out; obtain ⟨hcz10_0, hcz10_1, hcz10_2, hcz10_3, hfz10_0, hfz10_1, hfz10_2, hfz10_3⟩ := c4_ BK155; obtain ⟨hcz11_0, hcz11_1, hcz11_2, hcz11_3, hfz11_0, hfz11_1, hfz11_2, hfz11_3⟩ := c4_ BK156) | (go_at_call 66; (with_reducible refine (gafferref03_SameInts.calls k _ _ l0_2 _ _ l1_2 t157 _ ?side1 ?side2 ?side3 ?side4 A6.out).mono ?_); (case side1 => exact cl_ (Kd.C_below HR0_2.out HB.out)); (case side2 => exact HC0_2.out); (case side3 => exact cl_ (Kd.C_below HR1_2.out HB.out)); (case side4 => exact HC1_2.out); rintro e w' ⟨rfl, ⟨nd, rfl⟩⟩))
 go_ret
 exact ⟨fz_, bl_2 HB GE155 GE156⟩end Go.Proofs.Ytcdibodjkdoknaa.PM
