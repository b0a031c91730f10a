-- Written for this claim by a program of this session. Lean checks it.
import Derived.Test.YtcdibodjkdoknaaPMx0
namespace Go.Proofs.Ytcdibodjkdoknaa.PM
open Go.RowKit Go.Proofs.YtcdibodjkdoknaaW.PrintWords Go.Proofs.YtcdibodjkdoknaaW.PrintLast Go.Proofs.YtcdibodjkdoknaaW.PrintMore Go.Proofs.Ytcdibodjkdoknaa.Sh Go.Proofs.Ytcdibodjkdoknaa.Op
attribute [local go_sem] max2_int min2_int max_two min_two max_three min_three max_four min_four   -- for this text's walks alone
set_option linter.unusedVariables false
set_option maxHeartbeats 80000000
set_option maxRecDepth 100000
set_option linter.unusedSimpArgs false

/-! ### gafferref03_SameInts: function 66 -/
def gafferref03_SameInts.l0 : Nat → List Int → List Int → Int → Int → Option (Bool)
 | 0, _, _, _, _ => none
 | k + 1, x0, x1, x12, x13 => if x13 < x12 then (if 0 ≤ x13 then (if x13 < (x0.length : Int) then (if x13 < (x1.length : Int) then (if (rd x0 x13) = (rd x1 x13) then (gafferref03_SameInts.l0 k x0 x1 x12 (wrap64 (x13 + 1))) else (some false)) else (none)) else (none)) else (none)) else (some true)
def gafferref03_SameInts.f (k : Nat) (l0 : List Int) (l1 : List Int) : Option (Bool) := if (l0.length : Int) = (l1.length : Int) then (gafferref03_SameInts.l0 k l0 l1 (l0.length : Int) 0) else (some false)
theorem gafferref03_SameInts.mono_l : ∀ k, (∀ y0 y1 y2 y3, LeO (gafferref03_SameInts.l0 k y0 y1 y2 y3) (gafferref03_SameInts.l0 (k + 1) y0 y1 y2 y3))
 | 0 => fun _ _ _ _ r h => by simp [gafferref03_SameInts.l0] at h
 | k + 1 => by
  have ih0 := gafferref03_SameInts.mono_l k
  ·intro y0 y1 y2 y3
   unfold gafferref03_SameInts.l0
   repeat' with_reducible first | exact ih0 _ _ _ _ | exact LeO.refl _ | exact LeO.none _ | refine LeO.ite ?_ ?_ | refine LeO.bind ?_ (fun _ => ?_)
theorem gafferref03_SameInts.mono : ∀ a0 a1 k, LeO (gafferref03_SameInts.f k a0 a1) (gafferref03_SameInts.f (k + 1) a0 a1) := by
 intro a0 a1 k
 have ih0 := gafferref03_SameInts.mono_l k
 unfold gafferref03_SameInts.f
 repeat' with_reducible first | exact ih0 _ _ _ _ | exact LeO.refl _ | exact LeO.none _ | refine LeO.ite ?_ ?_ | refine LeO.bind ?_ (fun _ => ?_)
theorem gafferref03_SameInts.calls (k : Nat) (A0 : Option Addr) (c0 : Nat) (l0 : List Int) (A1 : Option Addr) (c1 : Nat) (l1 : List Int) (r : Bool) (w : World) (hr0 : Kd.C (Kd.int .i64) w A0 l0.length l0) (hc0 : l0.length ≤ c0) (hr1 : Kd.C (Kd.int .i64) w A1 l1.length l1) (hc1 : l1.length ≤ c1) (h : gafferref03_SameInts.f k l0 l1 = some r) :
  Calls Try.prog 66 #[.slice A0 l0.length c0, .slice A1 l1.length c1] w fun e w' => e = .returned (.bool r) ∧ Drawn0 w w' := by
 have HR0 := a_ hr0
 have HC0 := a_ hc0
 clear hr0 hc0
 have HR1 := a_ hr1
 have HC1 := a_ hc1
 clear hr1 hc1
 have H : (if (l0.length : Int) = (l1.length : Int) then (gafferref03_SameInts.l0 k l0 l1 (l0.length : Int) 0) else (some false)) = some r := h
 clear h
 by_cases c3 : (l0.length : Int) = (l1.length : Int)
 rotate_left
 ·rw [if_neg c3] at H
  have c3b0 : ((l0.length : Int) == (l1.length : Int)) = false := beq_eq_false_iff_ne.mpr c3
  have c3b1 : ((l0.length : Int) != (l1.length : Int)) = true := bne_iff_ne.mpr c3
  have c3b2 : (l0.length == l1.length) = false := by first | simpa using c3 | (simp at c3 ⊢; omega)
  obtain rfl := Option.some.inj H
  go_enter Try.func66, Try.ntmps66
  go_wp2
  repeat (go_quiet (fail); try go_wp2)
  go_ret
  exact ⟨fz_, dr_⟩


 rw [if_pos c3] at H
 have c3b0 : ((l0.length : Int) == (l1.length : Int)) = true := beq_iff_eq.mpr c3
 have c3b1 : ((l0.length : Int) != (l1.length : Int)) = false := bne_eq_false_iff_eq.mpr c3
 have c3b2 : (l0.length == l1.length) = true := by first | simpa using c3 | (simp at c3 ⊢; omega)
 clear c3
 have H' := a_ H
 clear H
 go_enter Try.func66, Try.ntmps66
 go_wp2
 repeat (go_quiet (fail); try go_wp2)
 go_loopg [13] k (fun kq v13 w' => ∃ (x13_1 : Int), v13 = .int .i64 x13_1 ∧ Aside0 (gafferref03_SameInts.l0 kq l0 l1 (l0.length : Int) x13_1 = some r) ∧ Aside0 (kq ≤ k) ∧ Drawn0 w w')
 case atStart => exact ⟨(0), fz_, H', ⟨Nat.le_refl _⟩, dr_⟩
 case round =>
  clear H'
  try clear c1
  try clear p2
  try clear c3
  try clear c3b0
  try clear c3b1
  try clear c3b2
  obtain ⟨x13_1, rfl, HA, HK1, ⟨m1, rfl⟩⟩ := hrel
  cases gk with
  | zero => exact absurd HA.out (by simp [gafferref03_SameInts.l0])
  | succ k1 =>
   have H := HA.out
   clear HA
   simp only [gafferref03_SameInts.l0] at H
   by_cases c4 : x13_1 < (l0.length : Int)
   rotate_left
   ·rw [if_neg c4] at H
    have c4b0 : decide (x13_1 < (l0.length : Int)) = false := decide_eq_false c4
    clear c4
    obtain rfl := Option.some.inj H
    go_wp2
    repeat (go_quiet (fail); try go_wp2)
    go_ret
    exact ⟨fz_, dr_⟩
   rw [if_pos c4] at H
   have c4b0 : decide (x13_1 < (l0.length : Int)) = true := decide_eq_true c4
   clear c4
   by_cases c5 : 0 ≤ x13_1
   rotate_left
   ·rw [if_neg c5] at H
    exact absurd H (by simp)
   rw [if_pos c5] at H
   have c5b0 : decide (0 ≤ x13_1) = true := decide_eq_true c5
   clear c5
   by_cases c6 : x13_1 < (l0.length : Int)
   rotate_left
   ·rw [if_neg c6] at H
    exact absurd H (by simp)
   rw [if_pos c6] at H
   have c6b0 : decide (x13_1 < (l0.length : Int)) = true := decide_eq_true c6
   clear c6
   by_cases c7 : x13_1 < (l1.length : Int)
   rotate_left
   ·rw [if_neg c7] at H
    exact absurd H (by simp)
   rw [if_pos c7] at H
   have c7b0 : decide (x13_1 < (l1.length : Int)) = true := decide_eq_true c7
   clear c7
   by_cases c8 : (rd l0 x13_1) = (rd l1 x13_1)
   rotate_left
   ·rw [if_neg c8] at H
    have c8b0 : ((rd l0 x13_1) == (rd l1 x13_1)) = false := beq_eq_false_iff_ne.mpr c8
    have c8b1 : ((rd l0 x13_1) != (rd l1 x13_1)) = true := bne_iff_ne.mpr c8
    obtain rfl := Option.some.inj H
    have p234 : 0 ≤ (x13_1 : Int) := od_
    have q234 : x13_1 < (l0.length : Int) := od_
    obtain ⟨ad234, e234, hx234_0⟩ := Kd.at_int HR0.out x13_1 p234 q234
    cases e234
    replace p234 := eq_true p234
    replace q234 := eq_true q234
    have p235 : 0 ≤ (x13_1 : Int) := od_
    have q235 : x13_1 < (l1.length : Int) := od_
    obtain ⟨ad235, e235, hx235_0⟩ := Kd.at_int HR1.out x13_1 p235 q235
    cases e235
    replace p235 := eq_true p235
    replace q235 := eq_true q235
    go_wp2
    repeat (go_quiet (fail); try go_wp2)
    go_ret
    exact ⟨fz_, dr_⟩
   rw [if_pos c8] at H
   have c8b0 : ((rd l0 x13_1) == (rd l1 x13_1)) = true := beq_iff_eq.mpr c8
   have c8b1 : ((rd l0 x13_1) != (rd l1 x13_1)) = false := bne_eq_false_iff_eq.mpr c8
   clear c8
   have H' := a_ H
   clear H
   have p234 : 0 ≤ (x13_1 : Int) := od_
   have q234 : x13_1 < (l0.length : Int) := od_
   obtain ⟨ad234, e234, hx234_0⟩ := Kd.at_int HR0.out x13_1 p234 q234
   cases e234
   replace p234 := eq_true p234
   replace q234 := eq_true q234
   have p235 : 0 ≤ (x13_1 : Int) := od_
   have q235 : x13_1 < (l1.length : Int) := od_
   obtain ⟨ad235, e235, hx235_0⟩ := Kd.at_int HR1.out x13_1 p235 q235
   cases e235
   replace p235 := eq_true p235
   replace q235 := eq_true q235
   go_wp2
   repeat (go_quiet (fail); try go_wp2)
   go_roundg k1
   case measure => have := HK1.out; omega
   case rel => exact ⟨(wrap64 (x13_1 + 1)), fz_, H', ⟨by have := HK1.out; omega⟩, dr_⟩
/-! ### gafferref03_SameEntry: function 65 -/
def gafferref03_SameEntry.f (k : Nat) (a0_0 : Int) (a0_1 : Int) (a0_2 : Int) (a0_3 : ByteArray) (l0_4 : List Int) (a1_0 : Int) (a1_1 : Int) (a1_2 : Int) (a1_3 : ByteArray) (l1_4 : List Int) : Option (Bool) := if a0_0 = a1_0 then (if a0_1 = a1_1 then (if a0_2 = a1_2 then (if a0_3.toList = a1_3.toList then ((gafferref03_SameInts.f k l0_4 l1_4).bind fun t238 => (some t238)) else (some false)) else (some false)) else (some false)) else (some false)
theorem gafferref03_SameEntry.mono : ∀ a0 a1 a2 a3 a4 a5 a6 a7 a8 a9 k, LeO (gafferref03_SameEntry.f k a0 a1 a2 a3 a4 a5 a6 a7 a8 a9) (gafferref03_SameEntry.f (k + 1) a0 a1 a2 a3 a4 a5 a6 a7 a8 a9) := by
 intro a0 a1 a2 a3 a4 a5 a6 a7 a8 a9 k
 unfold gafferref03_SameEntry.f
 repeat' with_reducible first | exact gafferref03_SameInts.mono _ _ _ | exact LeO.refl _ | exact LeO.none _ | refine LeO.ite ?_ ?_ | refine LeO.bind ?_ (fun _ => ?_)
theorem gafferref03_SameEntry.calls (k : Nat) (a0_0 : Int) (a0_1 : Int) (a0_2 : Int) (a0_3 : ByteArray) (A0_4 : Option Addr) (c0_4 : Nat) (l0_4 : List Int) (a1_0 : Int) (a1_1 : Int) (a1_2 : Int) (a1_3 : ByteArray) (A1_4 : Option Addr) (c1_4 : Nat) (l1_4 : List Int) (r : Bool) (w : World) (hr0_4 : Kd.C (Kd.int .i64) w A0_4 l0_4.length l0_4) (hc0_4 : l0_4.length ≤ c0_4) (hr1_4 : Kd.C (Kd.int .i64) w A1_4 l1_4.length l1_4) (hc1_4 : l1_4.length ≤ c1_4) (h : gafferref03_SameEntry.f k a0_0 a0_1 a0_2 a0_3 l0_4 a1_0 a1_1 a1_2 a1_3 l1_4 = some r) :
  Calls Try.prog 65 #[.agg #[.int .u64 a0_0, .int .u64 a0_1, .int .u8 a0_2, .string a0_3, .slice A0_4 l0_4.length c0_4], .agg #[.int .u64 a1_0, .int .u64 a1_1, .int .u8 a1_2, .string a1_3, .slice A1_4 l1_4.length c1_4]] w fun e w' => e = .returned (.bool r) ∧ Below w.heap.size w w' := by
 have hu_1 := Try.underlying67
 have HR_1 := a_ hr0_4
 have HC_1 := a_ hc0_4
 clear hr0_4 hc0_4
 have HR_2 := a_ hr1_4
 have HC_2 := a_ hc1_4
 clear hr1_4 hc1_4
 have HB := a_ (Below.refl w.heap.size w)
 have H : (if a0_0 = a1_0 then (if a0_1 = a1_1 then (if a0_2 = a1_2 then (if a0_3.toList = a1_3.toList then ((gafferref03_SameInts.f k l0_4 l1_4).bind fun t238 => (some t238)) else (some false)) else (some false)) else (some false)) else (some false)) = some r := h
 clear h
 by_cases c_1 : a0_0 = a1_0
 rotate_left
 focus
  rw [if_neg c_1] at H
  have c_2 : (a0_0 == a1_0) = false := beq_eq_false_iff_ne.mpr c_1
  have c_3 : (a0_0 != a1_0) = true := bne_iff_ne.mpr c_1
  obtain rfl := Option.some.inj H
 rotate_left
 focus
  rw [if_pos c_1] at H
  have c_2 : (a0_0 == a1_0) = true := beq_iff_eq.mpr c_1
  have c_3 : (a0_0 != a1_0) = false := bne_eq_false_iff_eq.mpr c_1
  clear c_1
  by_cases c_4 : a0_1 = a1_1
  rotate_left
  focus
   rw [if_neg c_4] at H
   have c_5 : (a0_1 == a1_1) = false := beq_eq_false_iff_ne.mpr c_4
   have c_6 : (a0_1 != a1_1) = true := bne_iff_ne.mpr c_4
   obtain rfl := Option.some.inj H
  rotate_left
  focus
   rw [if_pos c_4] at H
   have c_5 : (a0_1 == a1_1) = true := beq_iff_eq.mpr c_4
   have c_6 : (a0_1 != a1_1) = false := bne_eq_false_iff_eq.mpr c_4
   clear c_4
   by_cases c_7 : a0_2 = a1_2
   rotate_left
   focus
    rw [if_neg c_7] at H
    have c_8 : (a0_2 == a1_2) = false := beq_eq_false_iff_ne.mpr c_7
    have c_9 : (a0_2 != a1_2) = true := bne_iff_ne.mpr c_7
    obtain rfl := Option.some.inj H
   rotate_left
   focus
    rw [if_pos c_7] at H
    have c_8 : (a0_2 == a1_2) = true := beq_iff_eq.mpr c_7
    have c_9 : (a0_2 != a1_2) = false := bne_eq_false_iff_eq.mpr c_7
    clear c_7
    by_cases c_10 : a0_3.toList = a1_3.toList
    rotate_left
    focus
     rw [if_neg c_10] at H
     have c_11 : (a0_3.toList == a1_3.toList) = false := beq_eq_false_iff_ne.mpr c_10
     have c_12 : (a0_3.toList != a1_3.toList) = true := bne_iff_ne.mpr c_10
     obtain rfl := Option.some.inj H
    rotate_left
    rw [if_pos c_10] at H
    have c_11 : (a0_3.toList == a1_3.toList) = true := beq_iff_eq.mpr c_10
    have c_12 : (a0_3.toList != a1_3.toList) = false := bne_eq_false_iff_eq.mpr c_10
    clear c_10
    obtain ⟨t_1, A_1, H⟩ := Option.bind_eq_some_iff.mp H
    try dsimp only at H
    have A_2 := a_ A_1
    clear A_1
    obtain rfl := Option.some.inj H
 all_goals
  go_enter Try.func65, Try.ntmps65
  go_wp2_with (first | ((with_reducible refine gd_ 2 ?_); refine bx_ 2 #[.int .u64 a0_0, .int .u64 a0_1, .int .u8 a0_2, .string a0_3, .slice A0_4 l0_4.length c0_4] 67 ?_; intro gb_1 hg w_1 hbox hb; have BK_1 := a_ (hbox); have GE_1 := a_ (bs_0 hg HB); replace HB := hB_ (bl_ HB) hb; clear hb hbox hg) | ((with_reducible refine gd_ 3 ?_); refine bx_ 3 #[.int .u64 a1_0, .int .u64 a1_1, .int .u8 a1_2, .string a1_3, .slice A1_4 l1_4.length c1_4] 67 ?_; intro gb_2 hg w_2 hbox hb; have BK_2 := a_ (hbox); have GE_2 := a_ (bs_1 hg HB GE_1); replace HB := hB_ (bl_1 HB GE_1) hb; have NB_1 := nB_ hg BK_1; have NB_2 := nC_ hg BK_1; replace BK_1 := bB_ BK_1 hb; clear hb hbox hg; have hnb_1 := NB_1.out; have hnc_1 := NB_2.out; obtain ⟨hcz_1, hcz_2, hcz_3, hcz_4, hcz_5, hfz_1, hfz_2, hfz_3, hfz_4, hfz_5⟩ := c5_ BK_1; obtain ⟨hcz_6, hcz_7, hcz_8, hcz_9, hcz_10, hfz_6, hfz_7, hfz_8, hfz_9, hfz_10⟩ := c5_ BK_2) | (go_at_call 66; (with_reducible refine (gafferref03_SameInts.calls k _ _ l0_4 _ _ l1_4 t_1 _ ?side1 ?side2 ?side3 ?side4 A_2.out).mono ?_); (case side1 => exact cl_ (Kd.C_below HR_1.out HB.out)); (case side2 => exact HC_1.out); (case side3 => exact cl_ (Kd.C_below HR_2.out HB.out)); (case side4 => exact HC_2.out); rintro e w' ⟨rfl, ⟨nd, rfl⟩⟩))
  go_ret
  exact ⟨fz_, bl_2 HB GE_1 GE_2⟩

/-! ### gafferref03_Same: function 33 -/
def gafferref03_Same.l0 : Nat → List (S67) → List (S67) → Int → Int → Option (Bool)
 | 0, _, _, _, _ => none
 | k + 1, x0, x1, x12, x13 => if x13 < x12 then (if 0 ≤ x13 then (if x13 < (x0.length : Int) then (if x13 < (x1.length : Int) then ((gafferref03_SameEntry.f k ((rd_T67 x0 x13).f0) ((rd_T67 x0 x13).f1) ((rd_T67 x0 x13).f2) ((rd_T67 x0 x13).f3) ((rd_T67 x0 x13).f4) ((rd_T67 x1 x13).f0) ((rd_T67 x1 x13).f1) ((rd_T67 x1 x13).f2) ((rd_T67 x1 x13).f3) ((rd_T67 x1 x13).f4)).bind fun t241 => (if t241 = true then (gafferref03_Same.l0 k x0 x1 x12 (wrap64 (x13 + 1))) else (some false))) else (none)) else (none)) else (none)) else (some true)
def gafferref03_Same.f (k : Nat) (l0 : List (S67)) (l1 : List (S67)) : Option (Bool) := if (l0.length : Int) = (l1.length : Int) then (gafferref03_Same.l0 k l0 l1 (l0.length : Int) 0) else (some false)
theorem gafferref03_Same.mono_l : ∀ k, (∀ y0 y1 y2 y3, LeO (gafferref03_Same.l0 k y0 y1 y2 y3) (gafferref03_Same.l0 (k + 1) y0 y1 y2 y3))
 | 0 => fun _ _ _ _ r h => by simp [gafferref03_Same.l0] at h
 | k + 1 => by
  have ih0 := gafferref03_Same.mono_l k
  ·intro y0 y1 y2 y3
   unfold gafferref03_Same.l0
   repeat' with_reducible first | exact ih0 _ _ _ _ | exact gafferref03_SameEntry.mono _ _ _ _ _ _ _ _ _ _ _ | exact LeO.refl _ | exact LeO.none _ | refine LeO.ite ?_ ?_ | refine LeO.bind ?_ (fun _ => ?_)
theorem gafferref03_Same.mono : ∀ a0 a1 k, LeO (gafferref03_Same.f k a0 a1) (gafferref03_Same.f (k + 1) a0 a1) := by
 intro a0 a1 k
 have ih0 := gafferref03_Same.mono_l k
 unfold gafferref03_Same.f
 repeat' with_reducible first | exact ih0 _ _ _ _ | exact gafferref03_SameEntry.mono _ _ _ _ _ _ _ _ _ _ _ | exact LeO.refl _ | exact LeO.none _ | refine LeO.ite ?_ ?_ | refine LeO.bind ?_ (fun _ => ?_)
def gafferref03_Same.T6 : Bool × List (List Nat × List Nat) := (true, [([], []), ([], []), ([0, 1], [0, 1]), ([2], [2]), ([], []), ([], []), ([4, 5], [4, 5]), ([6], [6]), ([3, 7], [3, 7]), ([8], [8])])
def gafferref03_Same.B6 : List Nat := [0, 0, 3, 7, 0, 0, 48, 112, 255, 511]
theorem gafferref03_Same.tab6 : rtab .any (opsOf Try.f33 6) = gafferref03_Same.T6 := by kernel_rfl
theorem gafferref03_Same.bits6 : waitsOk gafferref03_Same.T6.2 gafferref03_Same.B6 = true := by kernel_rfl
theorem gafferref03_Same.calls (k : Nat) (A0 : Option Addr) (c0 : Nat) (l0 : List (S67)) (A1 : Option Addr) (c1 : Nat) (l1 : List (S67)) (r : Bool) (w : World) (hr0 : Kd.C k67 w A0 l0.length l0) (hc0 : l0.length ≤ c0) (hr1 : Kd.C k67 w A1 l1.length l1) (hc1 : l1.length ≤ c1) (h : gafferref03_Same.f k l0 l1 = some r) :
  Calls Try.prog 33 #[.slice A0 l0.length c0, .slice A1 l1.length c1] w fun e w' => e = .returned (.bool r) ∧ Below w.heap.size w w' := by
 have hu67 := Try.underlying67
 have HR0 := a_ hr0
 have HC0 := a_ hc0
 clear hr0 hc0
 have HR1 := a_ hr1
 have HC1 := a_ hc1
 clear hr1 hc1
 have HB := a_ (Below.refl w.heap.size w)
 have H : (if (l0.length : Int) = (l1.length : Int) then (gafferref03_Same.l0 k l0 l1 (l0.length : Int) 0) else (some false)) = some r := h
 clear h
 by_cases c3 : (l0.length : Int) = (l1.length : Int)
 rotate_left
 ·rw [if_neg c3] at H
  have c3b0 : ((l0.length : Int) == (l1.length : Int)) = false := beq_eq_false_iff_ne.mpr c3
  have c3b1 : ((l0.length : Int) != (l1.length : Int)) = true := bne_iff_ne.mpr c3
  have c3b2 : (l0.length == l1.length) = false := by first | simpa using c3 | (simp at c3 ⊢; omega)
  obtain rfl := Option.some.inj H
  go_enter Try.func33, Try.ntmps33
  go_wp2
  go_ret
  exact ⟨fz_, bl_ HB⟩


 rw [if_pos c3] at H
 have c3b0 : ((l0.length : Int) == (l1.length : Int)) = true := beq_iff_eq.mpr c3
 have c3b1 : ((l0.length : Int) != (l1.length : Int)) = false := bne_eq_false_iff_eq.mpr c3
 have c3b2 : (l0.length == l1.length) = true := by first | simpa using c3 | (simp at c3 ⊢; omega)
 clear c3
 have H' := a_ H
 clear H
 go_enter Try.func33, Try.ntmps33
 go_wp2
 go_loopg [13] k (fun kq v13 w' => ∃ (x13_1 : Int), v13 = .int .i64 x13_1 ∧ Aside0 (gafferref03_Same.l0 kq l0 l1 (l0.length : Int) x13_1 = some r) ∧ Aside0 (kq ≤ k) ∧ Aside0 (Below w.heap.size w w'))
 case atStart => exact ⟨(0), fz_, H', ⟨Nat.le_refl _⟩, ⟨bl_ HB⟩⟩
 case round =>
  clear H'
  try clear c1
  try clear p2
  try clear c3
  try clear c3b0
  try clear c3b1
  try clear c3b2
  obtain ⟨x13_1, rfl, HA, HK1, HB⟩ := hrel
  cases gk with
  | zero => exact absurd HA.out (by simp [gafferref03_Same.l0])
  | succ k1 =>
   have H := HA.out
   clear HA
   simp only [gafferref03_Same.l0] at H
   by_cases c4 : x13_1 < (l0.length : Int)
   rotate_left
   ·rw [if_neg c4] at H
    have c4b0 : decide (x13_1 < (l0.length : Int)) = false := decide_eq_false c4
    clear c4
    obtain rfl := Option.some.inj H
    go_wp2
    go_ret
    exact ⟨fz_, bl_ HB⟩
   rw [if_pos c4] at H
   have c4b0 : decide (x13_1 < (l0.length : Int)) = true := decide_eq_true c4
   clear c4
   by_cases c5 : 0 ≤ x13_1
   rotate_left
   ·rw [if_neg c5] at H
    exact absurd H (by simp)
   rw [if_pos c5] at H
   have c5b0 : decide (0 ≤ x13_1) = true := decide_eq_true c5
   clear c5
   by_cases c6 : x13_1 < (l0.length : Int)
   rotate_left
   ·rw [if_neg c6] at H
    exact absurd H (by simp)
   rw [if_pos c6] at H
   have c6b0 : decide (x13_1 < (l0.length : Int)) = true := decide_eq_true c6
   clear c6
   by_cases c7 : x13_1 < (l1.length : Int)
   rotate_left
   ·rw [if_neg c7] at H
    exact absurd H (by simp)
   rw [if_pos c7] at H
   have c7b0 : decide (x13_1 < (l1.length : Int)) = true := decide_eq_true c7
   clear c7
   obtain ⟨t241, A80, H⟩ := Option.bind_eq_some_iff.mp H
   try dsimp only at H
   have A8 := a_ A80
   clear A80
   by_cases c9 : t241 = true
   rotate_left
   ·replace c9 := Bool.eq_false_iff.mpr c9
    subst c9
    have H1 : (some false) = some r := by rw [if_neg (show ¬ (false = true) by decide)] at H; exact H
    clear H
    have H := H1
    clear H1
    obtain rfl := Option.some.inj H
    try go_wp2
    have n0_ := a_ (below_drew1 HB.out)
    clear HB
    have HB := n0_
    clear n0_
    have p239 : 0 ≤ (x13_1 : Int) := od_
    have q239 : x13_1 < (l0.length : Int) := od_
    obtain ⟨ad239, A239_4, c239_4, e239, hx239_0, hx239_1, hx239_2, hx239_3, hx239_4, hl239_4, hi239_4⟩ := at_T67 HR0.out x13_1 p239 q239
    have hw239_4 := hx239_4
    have hw239_3 := hx239_3
    have hw239_2 := hx239_2
    have hw239_1 := hx239_1
    have hw239_0 := hx239_0
    cases e239
    replace hx239_0 := hc_ HB hx239_0
    replace hx239_1 := hc_ HB hx239_1
    replace hx239_2 := hc_ HB hx239_2
    replace hx239_3 := hc_ HB hx239_3
    replace hx239_4 := hc_ HB hx239_4
    have HR239_4 := a_ hi239_4
    have HC239_4 := a_ hl239_4
    clear hi239_4 hl239_4
    replace p239 := eq_true p239
    replace q239 := eq_true q239
    have p240 : 0 ≤ (x13_1 : Int) := od_
    have q240 : x13_1 < (l1.length : Int) := od_
    obtain ⟨ad240, A240_4, c240_4, e240, hx240_0, hx240_1, hx240_2, hx240_3, hx240_4, hl240_4, hi240_4⟩ := at_T67 HR1.out x13_1 p240 q240
    have hw240_4 := hx240_4
    have hw240_3 := hx240_3
    have hw240_2 := hx240_2
    have hw240_1 := hx240_1
    have hw240_0 := hx240_0
    cases e240
    replace hx240_0 := hc_ HB hx240_0
    replace hx240_1 := hc_ HB hx240_1
    replace hx240_2 := hc_ HB hx240_2
    replace hx240_3 := hc_ HB hx240_3
    replace hx240_4 := hc_ HB hx240_4
    have HR240_4 := a_ hi240_4
    have HC240_4 := a_ hl240_4
    clear hi240_4 hl240_4
    replace p240 := eq_true p240
    replace q240 := eq_true q240
    refine start_ (n := 10) (S := fun w' => w'.cell? (ad239.add ((x13_1).toNat * 5)) = some (.int .u64 ((rd_T67 l0 x13_1).f0)) ∧ w'.cell? ⟨(ad239.add ((x13_1).toNat * 5)).block, (ad239.add ((x13_1).toNat * 5)).off + 1, none⟩ = some (.int .u64 ((rd_T67 l0 x13_1).f1)) ∧ w'.cell? ⟨(ad239.add ((x13_1).toNat * 5)).block, (ad239.add ((x13_1).toNat * 5)).off + 2, none⟩ = some (.int .u8 ((rd_T67 l0 x13_1).f2)) ∧ w'.cell? ⟨(ad239.add ((x13_1).toNat * 5)).block, (ad239.add ((x13_1).toNat * 5)).off + 3, none⟩ = some (.string ((rd_T67 l0 x13_1).f3)) ∧ w'.cell? ⟨(ad239.add ((x13_1).toNat * 5)).block, (ad239.add ((x13_1).toNat * 5)).off + 4, none⟩ = some (.slice A239_4 ((rd_T67 l0 x13_1).f4).length c239_4) ∧ w'.cell? (ad240.add ((x13_1).toNat * 5)) = some (.int .u64 ((rd_T67 l1 x13_1).f0)) ∧ w'.cell? ⟨(ad240.add ((x13_1).toNat * 5)).block, (ad240.add ((x13_1).toNat * 5)).off + 1, none⟩ = some (.int .u64 ((rd_T67 l1 x13_1).f1)) ∧ w'.cell? ⟨(ad240.add ((x13_1).toNat * 5)).block, (ad240.add ((x13_1).toNat * 5)).off + 2, none⟩ = some (.int .u8 ((rd_T67 l1 x13_1).f2)) ∧ w'.cell? ⟨(ad240.add ((x13_1).toNat * 5)).block, (ad240.add ((x13_1).toNat * 5)).off + 3, none⟩ = some (.string ((rd_T67 l1 x13_1).f3)) ∧ w'.cell? ⟨(ad240.add ((x13_1).toNat * 5)).block, (ad240.add ((x13_1).toNat * 5)).off + 4, none⟩ = some (.slice A240_4 ((rd_T67 l1 x13_1).f4).length c240_4)) (ds := []) #[false, false, false, false, false, false, false, false, false, false] (by kernel_rfl) rfl rfl ⟨((HB.out.cell (World.block_lt_of_cell? w _ hw239_0)).trans hw239_0), ((HB.out.cell (World.block_lt_of_cell? w _ hw239_1)).trans hw239_1), ((HB.out.cell (World.block_lt_of_cell? w _ hw239_2)).trans hw239_2), ((HB.out.cell (World.block_lt_of_cell? w _ hw239_3)).trans hw239_3), ((HB.out.cell (World.block_lt_of_cell? w _ hw239_4)).trans hw239_4), ((HB.out.cell (World.block_lt_of_cell? w _ hw240_0)).trans hw240_0), ((HB.out.cell (World.block_lt_of_cell? w _ hw240_1)).trans hw240_1), ((HB.out.cell (World.block_lt_of_cell? w _ hw240_2)).trans hw240_2), ((HB.out.cell (World.block_lt_of_cell? w _ hw240_3)).trans hw240_3), ((HB.out.cell (World.block_lt_of_cell? w _ hw240_4)).trans hw240_4)⟩ (fun hHeld => ?_); refine with_tabW gafferref03_Same.tab6 gafferref03_Same.bits6 (fun HT_ HW_ => ?_)
    generalize wr.drew = w12 at HB HR239_4 HR240_4 hx239_0 hx239_1 hx239_2 hx239_3 hx239_4 hx240_0 hx240_1 hx240_2 hx240_3 hx240_4 hHeld ⊢
    refine pu_ HT_ 0 (some 16) ?_
    refine pu_ HT_ 1 (some 17) ?_
    refine pu_ HT_ 2 (some 18) ?_
    refine pu_ HT_ 4 (some 20) ?_
    refine pu_ HT_ 5 (some 21) ?_
    refine pu_ HT_ 6 (some 22) ?_
    refine take_ (i := 3) (N := some 19) (v := ?_) (a' := ?_) #[true, true, true, true, true, true, true, false, false, false] rfl rfl (take_ofW HT_.out HW_.out (by kernel_rfl)) (fun _ _ _ h => h) (Or.inl ⟨by rfl, ?_⟩) hHeld ?_ ?_
    rotate_left
    ·rintro w' ⟨s0, s1, s2, s3, s4, s5, s6, s7, s8, s9⟩
     go_simp
     with_reducible rfl
    rotate_left
    ·exact ap_
    refine take_ (i := 7) (N := some 23) (v := ?_) (a' := ?_) #[true, true, true, true, true, true, true, true, false, false] rfl rfl (take_ofW HT_.out HW_.out (by kernel_rfl)) (fun _ _ _ h => h) (Or.inl ⟨by rfl, ?_⟩) hHeld ?_ ?_
    rotate_left
    ·rintro w' ⟨s0, s1, s2, s3, s4, s5, s6, s7, s8, s9⟩
     go_simp
     with_reducible rfl
    rotate_left
    ·exact ap_
    refine one_ (i := 8) (N := some 24) #[true, true, true, true, true, true, true, true, true, false] rfl rfl (one_of HT_.out (by kernel_rfl)) (by decide) (fun K hK => ?_)
    refine goes_ Try.func65 (by kernel_rfl) rfl #[.agg #[.int .u64 ((rd_T67 l0 x13_1).f0), .int .u64 ((rd_T67 l0 x13_1).f1), .int .u8 ((rd_T67 l0 x13_1).f2), .string ((rd_T67 l0 x13_1).f3), .slice A239_4 ((rd_T67 l0 x13_1).f4).length c239_4], .agg #[.int .u64 ((rd_T67 l1 x13_1).f0), .int .u64 ((rd_T67 l1 x13_1).f1), .int .u8 ((rd_T67 l1 x13_1).f2), .string ((rd_T67 l1 x13_1).f3), .slice A240_4 ((rd_T67 l1 x13_1).f4).length c240_4]] (by rfl) rfl rfl (ar_) ?_
    with_reducible refine (gafferref03_SameEntry.calls k1 ((rd_T67 l0 x13_1).f0) ((rd_T67 l0 x13_1).f1) ((rd_T67 l0 x13_1).f2) ((rd_T67 l0 x13_1).f3) _ _ ((rd_T67 l0 x13_1).f4) ((rd_T67 l1 x13_1).f0) ((rd_T67 l1 x13_1).f1) ((rd_T67 l1 x13_1).f2) ((rd_T67 l1 x13_1).f3) _ _ ((rd_T67 l1 x13_1).f4) false _ ?side1 ?side2 ?side3 ?side4 A8.out).mono ?_
    (case side1 => exact cl_ (Kd.C_below HR239_4.out HB.out))
    (case side2 => exact HC239_4.out)
    (case side3 => exact cl_ (Kd.C_below HR240_4.out HB.out))
    (case side4 => exact HC240_4.out)
    rintro e w13 ⟨rfl, hb⟩
    refine ⟨_, rfl, ?_⟩
    have n0_ := hB_ (bl_ HB) hb
    clear HB
    have HB := n0_
    clear n0_
    (try clear hb)
    (try clear hb2)
    (try clear hk)
    (try clear hi)
    refine hK.out _ _ ⟨((HB.out.cell (World.block_lt_of_cell? w _ hw239_0)).trans hw239_0), ((HB.out.cell (World.block_lt_of_cell? w _ hw239_1)).trans hw239_1), ((HB.out.cell (World.block_lt_of_cell? w _ hw239_2)).trans hw239_2), ((HB.out.cell (World.block_lt_of_cell? w _ hw239_3)).trans hw239_3), ((HB.out.cell (World.block_lt_of_cell? w _ hw239_4)).trans hw239_4), ((HB.out.cell (World.block_lt_of_cell? w _ hw240_0)).trans hw240_0), ((HB.out.cell (World.block_lt_of_cell? w _ hw240_1)).trans hw240_1), ((HB.out.cell (World.block_lt_of_cell? w _ hw240_2)).trans hw240_2), ((HB.out.cell (World.block_lt_of_cell? w _ hw240_3)).trans hw240_3), ((HB.out.cell (World.block_lt_of_cell? w _ hw240_4)).trans hw240_4)⟩ (fun hHeld => ?_)
    clear hK K
    refine norm_ (a' := ?_) ?_ ?_
    rotate_left
    ·show Act.put _ (some 24) _ = _
     simp only [Act.put, List.setIfInBounds_toArray, List.set_cons_zero, List.set_cons_succ, i64_w, i32_w]
     rfl
    refine pu_ HT_ 9 (some 25) ?_
    refine done_ (done_of HT_.out (by kernel_rfl)) ?_
    try go_wp2
    go_ret
    exact ⟨fz_, bl_ HB⟩
   subst c9
   have H1 : (gafferref03_Same.l0 k1 l0 l1 (l0.length : Int) (wrap64 (x13_1 + 1))) = some r := by rw [if_pos rfl] at H; exact H
   clear H
   have H := H1
   clear H1
   have H' := a_ H
   clear H
   try go_wp2
   have n0_ := a_ (below_drew1 HB.out)
   clear HB
   have HB := n0_
   clear n0_
   have p239 : 0 ≤ (x13_1 : Int) := od_
   have q239 : x13_1 < (l0.length : Int) := od_
   obtain ⟨ad239, A239_4, c239_4, e239, hx239_0, hx239_1, hx239_2, hx239_3, hx239_4, hl239_4, hi239_4⟩ := at_T67 HR0.out x13_1 p239 q239
   have hw239_4 := hx239_4
   have hw239_3 := hx239_3
   have hw239_2 := hx239_2
   have hw239_1 := hx239_1
   have hw239_0 := hx239_0
   cases e239
   replace hx239_0 := hc_ HB hx239_0
   replace hx239_1 := hc_ HB hx239_1
   replace hx239_2 := hc_ HB hx239_2
   replace hx239_3 := hc_ HB hx239_3
   replace hx239_4 := hc_ HB hx239_4
   have HR239_4 := a_ hi239_4
   have HC239_4 := a_ hl239_4
   clear hi239_4 hl239_4
   replace p239 := eq_true p239
   replace q239 := eq_true q239
   have p240 : 0 ≤ (x13_1 : Int) := od_
   have q240 : x13_1 < (l1.length : Int) := od_
   obtain ⟨ad240, A240_4, c240_4, e240, hx240_0, hx240_1, hx240_2, hx240_3, hx240_4, hl240_4, hi240_4⟩ := at_T67 HR1.out x13_1 p240 q240
   have hw240_4 := hx240_4
   have hw240_3 := hx240_3
   have hw240_2 := hx240_2
   have hw240_1 := hx240_1
   have hw240_0 := hx240_0
   cases e240
   replace hx240_0 := hc_ HB hx240_0
   replace hx240_1 := hc_ HB hx240_1
   replace hx240_2 := hc_ HB hx240_2
   replace hx240_3 := hc_ HB hx240_3
   replace hx240_4 := hc_ HB hx240_4
   have HR240_4 := a_ hi240_4
   have HC240_4 := a_ hl240_4
   clear hi240_4 hl240_4
   replace p240 := eq_true p240
   replace q240 := eq_true q240
   refine start_ (n := 10) (S := fun w' => w'.cell? (ad239.add ((x13_1).toNat * 5)) = some (.int .u64 ((rd_T67 l0 x13_1).f0)) ∧ w'.cell? ⟨(ad239.add ((x13_1).toNat * 5)).block, (ad239.add ((x13_1).toNat * 5)).off + 1, none⟩ = some (.int .u64 ((rd_T67 l0 x13_1).f1)) ∧ w'.cell? ⟨(ad239.add ((x13_1).toNat * 5)).block, (ad239.add ((x13_1).toNat * 5)).off + 2, none⟩ = some (.int .u8 ((rd_T67 l0 x13_1).f2)) ∧ w'.cell? ⟨(ad239.add ((x13_1).toNat * 5)).block, (ad239.add ((x13_1).toNat * 5)).off + 3, none⟩ = some (.string ((rd_T67 l0 x13_1).f3)) ∧ w'.cell? ⟨(ad239.add ((x13_1).toNat * 5)).block, (ad239.add ((x13_1).toNat * 5)).off + 4, none⟩ = some (.slice A239_4 ((rd_T67 l0 x13_1).f4).length c239_4) ∧ w'.cell? (ad240.add ((x13_1).toNat * 5)) = some (.int .u64 ((rd_T67 l1 x13_1).f0)) ∧ w'.cell? ⟨(ad240.add ((x13_1).toNat * 5)).block, (ad240.add ((x13_1).toNat * 5)).off + 1, none⟩ = some (.int .u64 ((rd_T67 l1 x13_1).f1)) ∧ w'.cell? ⟨(ad240.add ((x13_1).toNat * 5)).block, (ad240.add ((x13_1).toNat * 5)).off + 2, none⟩ = some (.int .u8 ((rd_T67 l1 x13_1).f2)) ∧ w'.cell? ⟨(ad240.add ((x13_1).toNat * 5)).block, (ad240.add ((x13_1).toNat * 5)).off + 3, none⟩ = some (.string ((rd_T67 l1 x13_1).f3)) ∧ w'.cell? ⟨(ad240.add ((x13_1).toNat * 5)).block, (ad240.add ((x13_1).toNat * 5)).off + 4, none⟩ = some (.slice A240_4 ((rd_T67 l1 x13_1).f4).length c240_4)) (ds := []) #[false, false, false, false, false, false, false, false, false, false] (by kernel_rfl) rfl rfl ⟨((HB.out.cell (World.block_lt_of_cell? w _ hw239_0)).trans hw239_0), ((HB.out.cell (World.block_lt_of_cell? w _ hw239_1)).trans hw239_1), ((HB.out.cell (World.block_lt_of_cell? w _ hw239_2)).trans hw239_2), ((HB.out.cell (World.block_lt_of_cell? w _ hw239_3)).trans hw239_3), ((HB.out.cell (World.block_lt_of_cell? w _ hw239_4)).trans hw239_4), ((HB.out.cell (World.block_lt_of_cell? w _ hw240_0)).trans hw240_0), ((HB.out.cell (World.block_lt_of_cell? w _ hw240_1)).trans hw240_1), ((HB.out.cell (World.block_lt_of_cell? w _ hw240_2)).trans hw240_2), ((HB.out.cell (World.block_lt_of_cell? w _ hw240_3)).trans hw240_3), ((HB.out.cell (World.block_lt_of_cell? w _ hw240_4)).trans hw240_4)⟩ (fun hHeld => ?_); refine with_tabW gafferref03_Same.tab6 gafferref03_Same.bits6 (fun HT_ HW_ => ?_)
   generalize wr.drew = w10 at HB HR239_4 HR240_4 hx239_0 hx239_1 hx239_2 hx239_3 hx239_4 hx240_0 hx240_1 hx240_2 hx240_3 hx240_4 hHeld ⊢
   refine pu_ HT_ 0 (some 16) ?_
   refine pu_ HT_ 1 (some 17) ?_
   refine pu_ HT_ 2 (some 18) ?_
   refine pu_ HT_ 4 (some 20) ?_
   refine pu_ HT_ 5 (some 21) ?_
   refine pu_ HT_ 6 (some 22) ?_
   refine take_ (i := 3) (N := some 19) (v := ?_) (a' := ?_) #[true, true, true, true, true, true, true, false, false, false] rfl rfl (take_ofW HT_.out HW_.out (by kernel_rfl)) (fun _ _ _ h => h) (Or.inl ⟨by rfl, ?_⟩) hHeld ?_ ?_
   rotate_left
   ·rintro w' ⟨s0, s1, s2, s3, s4, s5, s6, s7, s8, s9⟩
    go_simp
    with_reducible rfl
   rotate_left
   ·exact ap_
   refine take_ (i := 7) (N := some 23) (v := ?_) (a' := ?_) #[true, true, true, true, true, true, true, true, false, false] rfl rfl (take_ofW HT_.out HW_.out (by kernel_rfl)) (fun _ _ _ h => h) (Or.inl ⟨by rfl, ?_⟩) hHeld ?_ ?_
   rotate_left
   ·rintro w' ⟨s0, s1, s2, s3, s4, s5, s6, s7, s8, s9⟩
    go_simp
    with_reducible rfl
   rotate_left
   ·exact ap_
   refine one_ (i := 8) (N := some 24) #[true, true, true, true, true, true, true, true, true, false] rfl rfl (one_of HT_.out (by kernel_rfl)) (by decide) (fun K hK => ?_)
   refine goes_ Try.func65 (by kernel_rfl) rfl #[.agg #[.int .u64 ((rd_T67 l0 x13_1).f0), .int .u64 ((rd_T67 l0 x13_1).f1), .int .u8 ((rd_T67 l0 x13_1).f2), .string ((rd_T67 l0 x13_1).f3), .slice A239_4 ((rd_T67 l0 x13_1).f4).length c239_4], .agg #[.int .u64 ((rd_T67 l1 x13_1).f0), .int .u64 ((rd_T67 l1 x13_1).f1), .int .u8 ((rd_T67 l1 x13_1).f2), .string ((rd_T67 l1 x13_1).f3), .slice A240_4 ((rd_T67 l1 x13_1).f4).length c240_4]] (by rfl) rfl rfl (ar_) ?_
   with_reducible refine (gafferref03_SameEntry.calls k1 ((rd_T67 l0 x13_1).f0) ((rd_T67 l0 x13_1).f1) ((rd_T67 l0 x13_1).f2) ((rd_T67 l0 x13_1).f3) _ _ ((rd_T67 l0 x13_1).f4) ((rd_T67 l1 x13_1).f0) ((rd_T67 l1 x13_1).f1) ((rd_T67 l1 x13_1).f2) ((rd_T67 l1 x13_1).f3) _ _ ((rd_T67 l1 x13_1).f4) true _ ?side1 ?side2 ?side3 ?side4 A8.out).mono ?_
   (case side1 => exact cl_ (Kd.C_below HR239_4.out HB.out))
   (case side2 => exact HC239_4.out)
   (case side3 => exact cl_ (Kd.C_below HR240_4.out HB.out))
   (case side4 => exact HC240_4.out)
   rintro e w11 ⟨rfl, hb⟩
   refine ⟨_, rfl, ?_⟩
   have n0_ := hB_ (bl_ HB) hb
   clear HB
   have HB := n0_
   clear n0_
   (try clear hb)
   (try clear hb2)
   (try clear hk)
   (try clear hi)
   refine hK.out _ _ ⟨((HB.out.cell (World.block_lt_of_cell? w _ hw239_0)).trans hw239_0), ((HB.out.cell (World.block_lt_of_cell? w _ hw239_1)).trans hw239_1), ((HB.out.cell (World.block_lt_of_cell? w _ hw239_2)).trans hw239_2), ((HB.out.cell (World.block_lt_of_cell? w _ hw239_3)).trans hw239_3), ((HB.out.cell (World.block_lt_of_cell? w _ hw239_4)).trans hw239_4), ((HB.out.cell (World.block_lt_of_cell? w _ hw240_0)).trans hw240_0), ((HB.out.cell (World.block_lt_of_cell? w _ hw240_1)).trans hw240_1), ((HB.out.cell (World.block_lt_of_cell? w _ hw240_2)).trans hw240_2), ((HB.out.cell (World.block_lt_of_cell? w _ hw240_3)).trans hw240_3), ((HB.out.cell (World.block_lt_of_cell? w _ hw240_4)).trans hw240_4)⟩ (fun hHeld => ?_)
   clear hK K
   refine norm_ (a' := ?_) ?_ ?_
   rotate_left
   ·show Act.put _ (some 24) _ = _
    simp only [Act.put, List.setIfInBounds_toArray, List.set_cons_zero, List.set_cons_succ, i64_w, i32_w]
    rfl
   refine pu_ HT_ 9 (some 25) ?_
   refine done_ (done_of HT_.out (by kernel_rfl)) ?_
   try go_wp2
   go_roundg k1
   case measure => have := HK1.out; omega
   case rel => exact ⟨(wrap64 (x13_1 + 1)), fz_, H', ⟨by have := HK1.out; omega⟩, ⟨bl_ HB⟩⟩
/-! ### gafferref05_Same: function 34 -/
def gafferref05_Same.f (k : Nat) (a0_0 : Int) (a0_1 : Int) (l0_2 : List Int) (a0_3 : ByteArray) (a1_0 : Int) (a1_1 : Int) (l1_2 : List Int) (a1_3 : ByteArray) : Option (Bool) := if a0_0 = a1_0 then (if a0_1 = a1_1 then (if a0_3.toList = a1_3.toList then ((gafferref03_SameInts.f k l0_2 l1_2).bind fun t244 => (some t244)) else (some false)) else (some false)) else (some false)
theorem gafferref05_Same.mono : ∀ a0 a1 a2 a3 a4 a5 a6 a7 k, LeO (gafferref05_Same.f k a0 a1 a2 a3 a4 a5 a6 a7) (gafferref05_Same.f (k + 1) a0 a1 a2 a3 a4 a5 a6 a7) := by
 intro a0 a1 a2 a3 a4 a5 a6 a7 k
 unfold gafferref05_Same.f
 repeat' with_reducible first | exact gafferref03_SameInts.mono _ _ _ | exact LeO.refl _ | exact LeO.none _ | refine LeO.ite ?_ ?_ | refine LeO.bind ?_ (fun _ => ?_)
theorem gafferref05_Same.calls (k : Nat) (a0_0 : Int) (a0_1 : Int) (A0_2 : Option Addr) (c0_2 : Nat) (l0_2 : List Int) (a0_3 : ByteArray) (a1_0 : Int) (a1_1 : Int) (A1_2 : Option Addr) (c1_2 : Nat) (l1_2 : List Int) (a1_3 : ByteArray) (r : Bool) (w : World) (hr0_2 : Kd.C (Kd.int .i64) w A0_2 l0_2.length l0_2) (hc0_2 : l0_2.length ≤ c0_2) (hr1_2 : Kd.C (Kd.int .i64) w A1_2 l1_2.length l1_2) (hc1_2 : l1_2.length ≤ c1_2) (h : gafferref05_Same.f k a0_0 a0_1 l0_2 a0_3 a1_0 a1_1 l1_2 a1_3 = some r) :
  Calls Try.prog 34 #[.agg #[.int .u64 a0_0, .int .u64 a0_1, .slice A0_2 l0_2.length c0_2, .string a0_3], .agg #[.int .u64 a1_0, .int .u64 a1_1, .slice A1_2 l1_2.length c1_2, .string a1_3]] w fun e w' => e = .returned (.bool r) ∧ Below w.heap.size w w' := by
 have hu_1 := Try.underlying35
 have HR_1 := a_ hr0_2
 have HC_1 := a_ hc0_2
 clear hr0_2 hc0_2
 have HR_2 := a_ hr1_2
 have HC_2 := a_ hc1_2
 clear hr1_2 hc1_2
 have HB := a_ (Below.refl w.heap.size w)
 have H : (if a0_0 = a1_0 then (if a0_1 = a1_1 then (if a0_3.toList = a1_3.toList then ((gafferref03_SameInts.f k l0_2 l1_2).bind fun t244 => (some t244)) else (some false)) else (some false)) else (some false)) = some r := h
 clear h
 by_cases c_1 : a0_0 = a1_0
 rotate_left
 focus
  rw [if_neg c_1] at H
  have c_2 : (a0_0 == a1_0) = false := beq_eq_false_iff_ne.mpr c_1
  have c_3 : (a0_0 != a1_0) = true := bne_iff_ne.mpr c_1
  obtain rfl := Option.some.inj H
 rotate_left
 focus
  rw [if_pos c_1] at H
  have c_2 : (a0_0 == a1_0) = true := beq_iff_eq.mpr c_1
  have c_3 : (a0_0 != a1_0) = false := bne_eq_false_iff_eq.mpr c_1
  clear c_1
  by_cases c_4 : a0_1 = a1_1
  rotate_left
  focus
   rw [if_neg c_4] at H
   have c_5 : (a0_1 == a1_1) = false := beq_eq_false_iff_ne.mpr c_4
   have c_6 : (a0_1 != a1_1) = true := bne_iff_ne.mpr c_4
   obtain rfl := Option.some.inj H
  rotate_left
  focus
   rw [if_pos c_4] at H
   have c_5 : (a0_1 == a1_1) = true := beq_iff_eq.mpr c_4
   have c_6 : (a0_1 != a1_1) = false := bne_eq_false_iff_eq.mpr c_4
   clear c_4
   by_cases c_7 : a0_3.toList = a1_3.toList
   rotate_left
   focus
    rw [if_neg c_7] at H
    have c_8 : (a0_3.toList == a1_3.toList) = false := beq_eq_false_iff_ne.mpr c_7
    have c_9 : (a0_3.toList != a1_3.toList) = true := bne_iff_ne.mpr c_7
    obtain rfl := Option.some.inj H
   rotate_left
   rw [if_pos c_7] at H
   have c_8 : (a0_3.toList == a1_3.toList) = true := beq_iff_eq.mpr c_7
   have c_9 : (a0_3.toList != a1_3.toList) = false := bne_eq_false_iff_eq.mpr c_7
   clear c_7
   obtain ⟨t_1, A_1, H⟩ := Option.bind_eq_some_iff.mp H
   try dsimp only at H
   have A_2 := a_ A_1
   clear A_1
   obtain rfl := Option.some.inj H
 all_goals
  go_enter Try.func34, Try.ntmps34
  go_wp2_with (first | ((with_reducible refine gd_ 2 ?_); refine bx_ 2 #[.int .u64 a0_0, .int .u64 a0_1, .slice A0_2 l0_2.length c0_2, .string a0_3] 35 ?_; intro gb_1 hg w_1 hbox hb; have BK_1 := a_ (hbox); have GE_1 := a_ (bs_0 hg HB); replace HB := hB_ (bl_ HB) hb; clear hb hbox hg) | ((with_reducible refine gd_ 3 ?_); refine bx_ 3 #[.int .u64 a1_0, .int .u64 a1_1, .slice A1_2 l1_2.length c1_2, .string a1_3] 35 ?_; intro gb_2 hg w_2 hbox hb; have BK_2 := a_ (hbox); have GE_2 := a_ (bs_1 hg HB GE_1); replace HB := hB_ (bl_1 HB GE_1) hb; have NB_1 := nB_ hg BK_1; have NB_2 := nC_ hg BK_1; replace BK_1 := bB_ BK_1 hb; clear hb hbox hg; have hnb_1 := NB_1.out; have hnc_1 := NB_2.out; obtain ⟨hcz_1, hcz_2, hcz_3, hcz_4, hfz_1, hfz_2, hfz_3, hfz_4⟩ := c4_ BK_1; obtain ⟨hcz_5, hcz_6, hcz_7, hcz_8, hfz_5, hfz_6, hfz_7, hfz_8⟩ := c4_ BK_2) | (go_at_call 66; (with_reducible refine (gafferref03_SameInts.calls k _ _ l0_2 _ _ l1_2 t_1 _ ?side1 ?side2 ?side3 ?side4 A_2.out).mono ?_); (case side1 => exact cl_ (Kd.C_below HR_1.out HB.out)); (case side2 => exact HC_1.out); (case side3 => exact cl_ (Kd.C_below HR_2.out HB.out)); (case side4 => exact HC_2.out); rintro e w' ⟨rfl, ⟨nd, rfl⟩⟩))
  go_ret
  exact ⟨fz_, bl_2 HB GE_1 GE_2⟩

end Go.Proofs.Ytcdibodjkdoknaa.PM
