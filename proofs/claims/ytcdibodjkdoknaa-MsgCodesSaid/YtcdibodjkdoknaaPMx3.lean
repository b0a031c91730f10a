-- By a program of this session.
import Derived.Test.YtcdibodjkdoknaaPMx0
import Derived.Test.YtcdibodjkdoknaaPMx2
namespace Go.Proofs.Ytcdibodjkdoknaa.PM
open Go.RowKit YtcdibodjkdoknaaW.PrintWords YtcdibodjkdoknaaW.PrintLast YtcdibodjkdoknaaW.PrintMore Sh Ytcdibodjkdoknaa.Op
attribute [local go_sem] max2_int min2_int max_two min_two max_three min_three max_four min_four
set_option linter.unusedVariables false
set_option maxHeartbeats 80000000
set_option maxRecDepth 100000
set_option linter.unusedSimpArgs false

def snap_Check.f (k : Nat) (a0_0 : Int) (a0_1 : Int) (l0_2 : List Int) (a0_3 : ByteArray) : Option (Int) := if a0_0 = 0 then (if a0_1 = 0 then (if (l0_2.length : Int) = 0 then (if (a0_3.toList = ([] : List UInt8)) then (some 0) else ((wal_Members.f k l0_2).bind fun t111 => (if t111 = true then (if (a0_3.size : Int) > 64512 then (some 4) else (some 0)) else (some 4)))) else ((wal_Members.f k l0_2).bind fun t112 => (if t112 = true then (if (a0_3.size : Int) > 64512 then (some 4) else (some 0)) else (some 4)))) else ((wal_Members.f k l0_2).bind fun t113 => (if t113 = true then (if (a0_3.size : Int) > 64512 then (some 4) else (some 0)) else (some 4)))) else ((wal_Members.f k l0_2).bind fun t114 => (if t114 = true then (if (a0_3.size : Int) > 64512 then (some 4) else (some 0)) else (some 4)))
theorem snap_Check.mono : ∀ a0 a1 a2 a3 k, LeO (snap_Check.f k a0 a1 a2 a3) (snap_Check.f (k + 1) a0 a1 a2 a3) := by
 intro a0 a1 a2 a3 k
 unfold snap_Check.f
 repeat' with_reducible first | apply wal_Members.mono | apply LeO.refl | apply LeO.none | apply LeO.ite | refine LeO.bind ?_ (fun _ => ?_)
theorem snap_Check.calls (k : Nat) (a0_0 : Int) (a0_1 : Int) (A0_2 : Option Addr) (c0_2 : Nat) (l0_2 : List Int) (a0_3 : ByteArray) (r : Int) (w : World) (hr0_2 : Kd.C (Kd.int .i64) w A0_2 l0_2.length l0_2) (hc0_2 : l0_2.length ≤ c0_2) (h : snap_Check.f k a0_0 a0_1 l0_2 a0_3 = some r) :
  Calls Try.prog 36 #[.agg #[.int .u64 a0_0, .int .u64 a0_1, .slice A0_2 l0_2.length c0_2, .string a0_3]] w fun e w' => e = .returned (.int .i64 r) ∧ Below w.heap.size w w' := by
 have hu_1 := Try.underlying35
 have HR_1 := a_ hr0_2
 have HC_1 := a_ hc0_2
 clear hr0_2 hc0_2
 have HB := a_ (Below.refl w.heap.size w)
 have H := h
 unfold snap_Check.f at H
 clear h
 by_cases c_1 : a0_0 = 0
 rotate_left
 focus
  rw [if_neg c_1] at H
  have c_2 : (a0_0 == 0) = false := beq_eq_false_iff_ne.mpr c_1
  have c_3 : (a0_0 != 0) = true := bne_iff_ne.mpr c_1
  obtain ⟨t_1, A_1, H⟩ := Option.bind_eq_some_iff.mp H
  try dsimp only at H
  have A_2 := a_ A_1
  clear A_1
  by_cases c_4 : t_1 = true
  rotate_left
  focus
   replace c_4 := Bool.eq_false_iff.mpr c_4
   subst c_4
   rw [if_neg (show ¬ (false = true) by decide)] at H
   obtain rfl := Option.some.inj H
  rotate_left
  focus
   subst c_4
   rw [if_pos rfl] at H
   by_cases c_5 : (a0_3.size : Int) > 64512
   focus
    rw [if_pos c_5] at H
    have c_6 : decide (64512 < (a0_3.size : Int)) = true := decide_eq_true c_5
    have c_7 : decide (64512 < a0_3.size) = true := decide_eq_true (by omega)
    clear c_5
    obtain rfl := Option.some.inj H
   rotate_left
   rw [if_neg c_5] at H
   have c_6 : decide (64512 < (a0_3.size : Int)) = false := decide_eq_false c_5
   have c_7 : decide (64512 < a0_3.size) = false := decide_eq_false (by omega)
   clear c_5
   obtain rfl := Option.some.inj H
 rotate_left 3
 focus
  rw [if_pos c_1] at H
  have c_2 : (a0_0 == 0) = true := beq_iff_eq.mpr c_1
  have c_3 : (a0_0 != 0) = false := bne_eq_false_iff_eq.mpr c_1
  clear c_1
  by_cases c_4 : a0_1 = 0
  rotate_left
  focus
   rw [if_neg c_4] at H
   have c_5 : (a0_1 == 0) = false := beq_eq_false_iff_ne.mpr c_4
   have c_6 : (a0_1 != 0) = true := bne_iff_ne.mpr c_4
   obtain ⟨t_1, A_1, H⟩ := Option.bind_eq_some_iff.mp H
   try dsimp only at H
   have A_2 := a_ A_1
   clear A_1
   by_cases c_7 : t_1 = true
   rotate_left
   focus
    replace c_7 := Bool.eq_false_iff.mpr c_7
    subst c_7
    rw [if_neg (show ¬ (false = true) by decide)] at H
    obtain rfl := Option.some.inj H
   rotate_left
   focus
    subst c_7
    rw [if_pos rfl] at H
    by_cases c_8 : (a0_3.size : Int) > 64512
    focus
     rw [if_pos c_8] at H
     have c_9 : decide (64512 < (a0_3.size : Int)) = true := decide_eq_true c_8
     have c_10 : decide (64512 < a0_3.size) = true := decide_eq_true (by omega)
     clear c_8
     obtain rfl := Option.some.inj H
    rotate_left
    rw [if_neg c_8] at H
    have c_9 : decide (64512 < (a0_3.size : Int)) = false := decide_eq_false c_8
    have c_10 : decide (64512 < a0_3.size) = false := decide_eq_false (by omega)
    clear c_8
    obtain rfl := Option.some.inj H
  rotate_left 3
  focus
   rw [if_pos c_4] at H
   have c_5 : (a0_1 == 0) = true := beq_iff_eq.mpr c_4
   have c_6 : (a0_1 != 0) = false := bne_eq_false_iff_eq.mpr c_4
   clear c_4
   by_cases c_7 : (l0_2.length : Int) = 0
   rotate_left
   focus
    rw [if_neg c_7] at H
    have c_8 : ((l0_2.length : Int) == 0) = false := beq_eq_false_iff_ne.mpr c_7
    have c_9 : ((l0_2.length : Int) != 0) = true := bne_iff_ne.mpr c_7
    have c_10 : ¬ (l0_2 = []) := fun h_ => c_7 (by rw [h_]; rfl)
    obtain ⟨t_1, A_1, H⟩ := Option.bind_eq_some_iff.mp H
    try dsimp only at H
    have A_2 := a_ A_1
    clear A_1
    by_cases c_11 : t_1 = true
    rotate_left
    focus
     replace c_11 := Bool.eq_false_iff.mpr c_11
     subst c_11
     rw [if_neg (show ¬ (false = true) by decide)] at H
     obtain rfl := Option.some.inj H
    rotate_left
    focus
     subst c_11
     rw [if_pos rfl] at H
     by_cases c_12 : (a0_3.size : Int) > 64512
     focus
      rw [if_pos c_12] at H
      have c_13 : decide (64512 < (a0_3.size : Int)) = true := decide_eq_true c_12
      have c_14 : decide (64512 < a0_3.size) = true := decide_eq_true (by omega)
      clear c_12
      obtain rfl := Option.some.inj H
     rotate_left
     rw [if_neg c_12] at H
     have c_13 : decide (64512 < (a0_3.size : Int)) = false := decide_eq_false c_12
     have c_14 : decide (64512 < a0_3.size) = false := decide_eq_false (by omega)
     clear c_12
     obtain rfl := Option.some.inj H
   rotate_left 3
   focus
    rw [if_pos c_7] at H
    have c_8 : ((l0_2.length : Int) == 0) = true := beq_iff_eq.mpr c_7
    have c_9 : ((l0_2.length : Int) != 0) = false := bne_eq_false_iff_eq.mpr c_7
    clear c_7
    by_cases c_10 : (a0_3.toList = ([] : List UInt8))
    focus
     rw [if_pos c_10] at H
     have c_11 : (a0_3.toList == ([] : List UInt8)) = true := beq_iff_eq.mpr c_10
     have c_12 : (a0_3.toList != ([] : List UInt8)) = false := bne_eq_false_iff_eq.mpr c_10
     clear c_10
     obtain rfl := Option.some.inj H
    rotate_left
    focus
     rw [if_neg c_10] at H
     have c_11 : (a0_3.toList == ([] : List UInt8)) = false := beq_eq_false_iff_ne.mpr c_10
     have c_12 : (a0_3.toList != ([] : List UInt8)) = true := bne_iff_ne.mpr c_10
     obtain ⟨t_1, A_1, H⟩ := Option.bind_eq_some_iff.mp H
     try dsimp only at H
     have A_2 := a_ A_1
     clear A_1
     by_cases c_13 : t_1 = true
     rotate_left
     focus
      replace c_13 := Bool.eq_false_iff.mpr c_13
      subst c_13
      rw [if_neg (show ¬ (false = true) by decide)] at H
      obtain rfl := Option.some.inj H
     rotate_left
     focus
      subst c_13
      rw [if_pos rfl] at H
      by_cases c_14 : (a0_3.size : Int) > 64512
      focus
       rw [if_pos c_14] at H
       have c_15 : decide (64512 < (a0_3.size : Int)) = true := decide_eq_true c_14
       have c_16 : decide (64512 < a0_3.size) = true := decide_eq_true (by omega)
       clear c_14
       obtain rfl := Option.some.inj H
      rotate_left
      rw [if_neg c_14] at H
      have c_15 : decide (64512 < (a0_3.size : Int)) = false := decide_eq_false c_14
      have c_16 : decide (64512 < a0_3.size) = false := decide_eq_false (by omega)
      clear c_14
      obtain rfl := Option.some.inj H
 all_goals
  go_enter Try.func36, Try.ntmps36
  go_wp2_with (first | ((with_reducible refine gd_ 1 ?_); (try (refine gate_guard (by rfl) ?_; dsimp only)); refine bx_ 1 #[.int .u64 a0_0, .int .u64 a0_1, .slice A0_2 l0_2.length c0_2, .string a0_3] 35 ?_; intro gb_1 hg w_1 hbox hb; have BK_1 := a_ (hbox); have GE_1 := a_ (bs_0 hg HB); replace HB := hB_ (bl_ HB) hb; clear hb hbox hg; obtain ⟨_, _, _, _, _, _, _, _⟩ := c4_ BK_1) | (go_at_call 69; (with_reducible refine (wal_Members.calls k _ _ l0_2 _ _ ?side1 ?side2 A_2.out).mono ?_); (case side1 => exact cl_ (Kd.C_below HR_1.out HB.out)); (case side2 => exact HC_1.out); rintro e w' ⟨rfl, ⟨nd, rfl⟩⟩))
  go_ret
  exact ⟨fz_, bl_1 HB GE_1⟩

def wal_Check.j0 : Nat → Bool → Int → Int → Int → ByteArray → List Int → Option (Int)
 | 0, _, _, _, _, _, _ => none
 | k + 1, x3, x116000, x116001, x116002, x116003, x116004 => if x116002 = 1 then (if x3 = true then (if x116003.toList = ([] : List UInt8) then (if ((x116004.length : Int) = 0) then (some 0) else (some 4)) else (some 4)) else (some 4)) else (if x116002 = 2 then (if x3 = true then (if ((x116004.length : Int) = 0) then (some 0) else (some 4)) else (some 4)) else (if x116002 = 3 then (if x3 = true then (if x116003.toList = ([] : List UInt8) then ((wal_Members.f k x116004).bind fun t116 => (if t116 = true then (some 0) else (some 4))) else (some 4)) else (some 4)) else (some 4)))
def wal_Check.f (k : Nat) (a0_0 : Int) (a0_1 : Int) (a0_2 : Int) (a0_3 : ByteArray) (l0_4 : List Int) : Option (Int) := if a0_0 > 0 then (wal_Check.j0 k (decide ((a0_3.size : Int) ≤ 4096)) a0_0 a0_1 a0_2 a0_3 l0_4) else (wal_Check.j0 k false a0_0 a0_1 a0_2 a0_3 l0_4)
theorem wal_Check.mono_l : ∀ k, (∀ y0 y1 y2 y3 y4 y5, LeO (wal_Check.j0 k y0 y1 y2 y3 y4 y5) (wal_Check.j0 (k + 1) y0 y1 y2 y3 y4 y5))
 | 0 => fun _ _ _ _ _ _ r h => by simp [wal_Check.j0] at h
 | k + 1 => by
  have ih0 := wal_Check.mono_l k
  ·intro y0 y1 y2 y3 y4 y5
   unfold wal_Check.j0
   repeat' with_reducible first | apply ih0 | apply wal_Members.mono | apply LeO.refl | apply LeO.none | apply LeO.ite | refine LeO.bind ?_ (fun _ => ?_)
theorem wal_Check.mono : ∀ a0 a1 a2 a3 a4 k, LeO (wal_Check.f k a0 a1 a2 a3 a4) (wal_Check.f (k + 1) a0 a1 a2 a3 a4) := by
 intro a0 a1 a2 a3 a4 k
 have ih0 := wal_Check.mono_l k
 unfold wal_Check.f
 repeat' with_reducible first | apply ih0 | apply wal_Members.mono | apply LeO.refl | apply LeO.none | apply LeO.ite | refine LeO.bind ?_ (fun _ => ?_)
theorem wal_Check.calls (k : Nat) (a0_0 : Int) (a0_1 : Int) (a0_2 : Int) (a0_3 : ByteArray) (A0_4 : Option Addr) (c0_4 : Nat) (l0_4 : List Int) (r : Int) (w : World) (hr0_4 : Kd.C (Kd.int .i64) w A0_4 l0_4.length l0_4) (hc0_4 : l0_4.length ≤ c0_4) (h : wal_Check.f k a0_0 a0_1 a0_2 a0_3 l0_4 = some r) :
  Calls Try.prog 37 #[.agg #[.int .u64 a0_0, .int .u64 a0_1, .int .u8 a0_2, .string a0_3, .slice A0_4 l0_4.length c0_4]] w fun e w' => e = .returned (.int .i64 r) ∧ Below w.heap.size w w' := by
 have hu_1 := Try.underlying67
 have HR_1 := a_ hr0_4
 have HC_1 := a_ hc0_4
 clear hr0_4 hc0_4
 have HB := a_ (Below.refl w.heap.size w)
 have H := h
 unfold wal_Check.f at H
 clear h
 have HC_2 := a_ H
 clear H
 go_enter Try.func37, Try.ntmps37
 go_upto_region 1 with (first | ((with_reducible refine gd_ 1 ?_); (try (refine gate_guard (by rfl) ?_; dsimp only)); refine bx_ 1 #[.int .u64 a0_0, .int .u64 a0_1, .int .u8 a0_2, .string a0_3, .slice A0_4 l0_4.length c0_4] 67 ?_; intro gb_1 hg w_1 hbox hb; have BK_1 := a_ (hbox); have GE_1 := a_ (bs_0 hg HB); replace HB := hB_ (bl_ HB) hb; clear hb hbox hg))
 (try simp only [Act.put, List.setIfInBounds_toArray, List.set_cons_zero, List.set_cons_succ])
 go_cut [3] (fun v3 wc => ∃ (kq : Nat) (x3_1 : Bool), v3 = .bool x3_1 ∧ Aside0 (wal_Check.j0 kq x3_1 a0_0 a0_1 a0_2 a0_3 l0_4 = some r) ∧ Aside0 (kq ≤ k) ∧ Aside0 (wc.heap[gb_1]? = some (.cells #[.int .u64 a0_0, .int .u64 a0_1, .int .u8 a0_2, .string a0_3, (.slice A0_4 l0_4.length c0_4)] 67 (0, 0))) ∧ Aside0 (Below w.heap.size w wc))
 case first =>
  have H := HC_2.out
  clear HC_2
  by_cases c_1 : a0_0 > 0
  rotate_left
  focus
   rw [if_neg c_1] at H
   have c_2 : decide (0 < a0_0) = false := decide_eq_false c_1
   clear c_1
   (first | rw [c_2] | (simp only [i64_w, i32_w]; rw [c_2]) | skip)
   have H' := a_ H
   clear H
   obtain ⟨_, _, _, _, _, _, _, _, _, _⟩ := c5_ BK_1
   have L0_ := trivial
  rotate_left
  rw [if_pos c_1] at H
  have c_2 : decide (0 < a0_0) = true := decide_eq_true c_1
  clear c_1
  (first | rw [c_2] | (simp only [i64_w, i32_w]; rw [c_2]) | skip)
  have H' := a_ H
  clear H
  obtain ⟨_, _, _, _, _, _, _, _, _, _⟩ := c5_ BK_1
  have L1_ := trivial
  all_goals
   go_wp2
   go_meet
   first
   | (have _ := L0_
      case rel => exact ⟨_, (false), fz_, H', ⟨by first | omega | exact Nat.le_refl _⟩, ⟨bk_ BK_1⟩, ⟨bl_1 HB GE_1⟩⟩)
   | (have _ := L1_
      case rel => exact ⟨_, (decide ((a0_3.size : Int) ≤ 4096)), fz_, H', ⟨by first | omega | exact Nat.le_refl _⟩, ⟨bk_ BK_1⟩, ⟨bl_1 HB GE_1⟩⟩)
 case rest =>
  clear HC_2
  try clear p2
  try clear c3
  try clear c_1
  try clear c4b0
  obtain ⟨kq, x_1, rfl, HA, HJ_1, BK_1, HB⟩ := hcut
  cases kq with
  | zero => exact absurd HA.out (by simp [wal_Check.j0])
  | succ kj1 =>
   have H := HA.out
   clear HA
   simp only [wal_Check.j0] at H
   by_cases c_2 : a0_2 = 1
   ·rw [if_pos c_2] at H
    have c_3 : (a0_2 == 1) = true := beq_iff_eq.mpr c_2
    have c_4 : (a0_2 != 1) = false := bne_eq_false_iff_eq.mpr c_2
    clear c_2
    by_cases c_5 : x_1 = true
    rotate_left
    ·replace c_5 := Bool.eq_false_iff.mpr c_5
     subst c_5
     rw [if_neg (show ¬ (false = true) by decide)] at H
     obtain rfl := Option.some.inj H
     obtain ⟨_, _, _, _, _, _, _, _, _, _⟩ := c5_ BK_1
     go_wp2
     go_ret
     exact ⟨fz_, bl_1 HB GE_1⟩
    subst c_5
    rw [if_pos rfl] at H
    by_cases c_6 : a0_3.toList = ([] : List UInt8)
    rotate_left
    ·rw [if_neg c_6] at H
     have c_7 : (a0_3.toList == ([] : List UInt8)) = false := beq_eq_false_iff_ne.mpr c_6
     have c_8 : (a0_3.toList != ([] : List UInt8)) = true := bne_iff_ne.mpr c_6
     obtain rfl := Option.some.inj H
     obtain ⟨_, _, _, _, _, _, _, _, _, _⟩ := c5_ BK_1
     go_wp2
     go_ret
     exact ⟨fz_, bl_1 HB GE_1⟩
    rw [if_pos c_6] at H
    have c_7 : (a0_3.toList == ([] : List UInt8)) = true := beq_iff_eq.mpr c_6
    have c_8 : (a0_3.toList != ([] : List UInt8)) = false := bne_eq_false_iff_eq.mpr c_6
    clear c_6
    by_cases c_9 : ((l0_4.length : Int) = 0)
    ·rw [if_pos c_9] at H
     have c_10 : ((l0_4.length : Int) == 0) = true := beq_iff_eq.mpr c_9
     have c_11 : ((l0_4.length : Int) != 0) = false := bne_eq_false_iff_eq.mpr c_9
     clear c_9
     obtain rfl := Option.some.inj H
     obtain ⟨_, _, _, _, _, _, _, _, _, _⟩ := c5_ BK_1
     go_wp2
     go_ret
     exact ⟨fz_, bl_1 HB GE_1⟩
    rw [if_neg c_9] at H
    have c_10 : ((l0_4.length : Int) == 0) = false := beq_eq_false_iff_ne.mpr c_9
    have c_11 : ((l0_4.length : Int) != 0) = true := bne_iff_ne.mpr c_9
    have c_12 : ¬ (l0_4 = []) := fun h_ => c_9 (by rw [h_]; rfl)
    obtain rfl := Option.some.inj H
    obtain ⟨_, _, _, _, _, _, _, _, _, _⟩ := c5_ BK_1
    go_wp2
    go_ret
    exact ⟨fz_, bl_1 HB GE_1⟩
   rw [if_neg c_2] at H
   have c_3 : (a0_2 == 1) = false := beq_eq_false_iff_ne.mpr c_2
   have c_4 : (a0_2 != 1) = true := bne_iff_ne.mpr c_2
   by_cases c_13 : a0_2 = 2
   ·rw [if_pos c_13] at H
    have c_14 : (a0_2 == 2) = true := beq_iff_eq.mpr c_13
    have c_15 : (a0_2 != 2) = false := bne_eq_false_iff_eq.mpr c_13
    clear c_13
    by_cases c_16 : x_1 = true
    rotate_left
    ·replace c_16 := Bool.eq_false_iff.mpr c_16
     subst c_16
     rw [if_neg (show ¬ (false = true) by decide)] at H
     obtain rfl := Option.some.inj H
     obtain ⟨_, _, _, _, _, _, _, _, _, _⟩ := c5_ BK_1
     go_wp2
     go_ret
     exact ⟨fz_, bl_1 HB GE_1⟩
    subst c_16
    rw [if_pos rfl] at H
    by_cases c_17 : ((l0_4.length : Int) = 0)
    ·rw [if_pos c_17] at H
     have c_18 : ((l0_4.length : Int) == 0) = true := beq_iff_eq.mpr c_17
     have c_19 : ((l0_4.length : Int) != 0) = false := bne_eq_false_iff_eq.mpr c_17
     clear c_17
     obtain rfl := Option.some.inj H
     obtain ⟨_, _, _, _, _, _, _, _, _, _⟩ := c5_ BK_1
     go_wp2
     go_ret
     exact ⟨fz_, bl_1 HB GE_1⟩
    rw [if_neg c_17] at H
    have c_18 : ((l0_4.length : Int) == 0) = false := beq_eq_false_iff_ne.mpr c_17
    have c_19 : ((l0_4.length : Int) != 0) = true := bne_iff_ne.mpr c_17
    have c_20 : ¬ (l0_4 = []) := fun h_ => c_17 (by rw [h_]; rfl)
    obtain rfl := Option.some.inj H
    obtain ⟨_, _, _, _, _, _, _, _, _, _⟩ := c5_ BK_1
    go_wp2
    go_ret
    exact ⟨fz_, bl_1 HB GE_1⟩
   rw [if_neg c_13] at H
   have c_14 : (a0_2 == 2) = false := beq_eq_false_iff_ne.mpr c_13
   have c_15 : (a0_2 != 2) = true := bne_iff_ne.mpr c_13
   by_cases c_21 : a0_2 = 3
   rotate_left
   ·rw [if_neg c_21] at H
    have c_22 : (a0_2 == 3) = false := beq_eq_false_iff_ne.mpr c_21
    have c_23 : (a0_2 != 3) = true := bne_iff_ne.mpr c_21
    obtain rfl := Option.some.inj H
    obtain ⟨_, _, _, _, _, _, _, _, _, _⟩ := c5_ BK_1
    go_wp2
    go_ret
    exact ⟨fz_, bl_1 HB GE_1⟩
   rw [if_pos c_21] at H
   have c_22 : (a0_2 == 3) = true := beq_iff_eq.mpr c_21
   have c_23 : (a0_2 != 3) = false := bne_eq_false_iff_eq.mpr c_21
   clear c_21
   by_cases c_24 : x_1 = true
   rotate_left
   ·replace c_24 := Bool.eq_false_iff.mpr c_24
    subst c_24
    rw [if_neg (show ¬ (false = true) by decide)] at H
    obtain rfl := Option.some.inj H
    obtain ⟨_, _, _, _, _, _, _, _, _, _⟩ := c5_ BK_1
    go_wp2
    go_ret
    exact ⟨fz_, bl_1 HB GE_1⟩
   subst c_24
   rw [if_pos rfl] at H
   by_cases c_25 : a0_3.toList = ([] : List UInt8)
   rotate_left
   ·rw [if_neg c_25] at H
    have c_26 : (a0_3.toList == ([] : List UInt8)) = false := beq_eq_false_iff_ne.mpr c_25
    have c_27 : (a0_3.toList != ([] : List UInt8)) = true := bne_iff_ne.mpr c_25
    obtain rfl := Option.some.inj H
    obtain ⟨_, _, _, _, _, _, _, _, _, _⟩ := c5_ BK_1
    go_wp2
    go_ret
    exact ⟨fz_, bl_1 HB GE_1⟩
   rw [if_pos c_25] at H
   have c_26 : (a0_3.toList == ([] : List UInt8)) = true := beq_iff_eq.mpr c_25
   have c_27 : (a0_3.toList != ([] : List UInt8)) = false := bne_eq_false_iff_eq.mpr c_25
   clear c_25
   obtain ⟨t_1, A_1, H⟩ := Option.bind_eq_some_iff.mp H
   try dsimp only at H
   have A_2 := a_ A_1
   clear A_1
   by_cases c_28 : t_1 = true
   ·subst c_28
    rw [if_pos rfl] at H
    obtain rfl := Option.some.inj H
    obtain ⟨_, _, _, _, _, _, _, _, _, _⟩ := c5_ BK_1
    go_wp2_with (first | (go_at_call 69; (with_reducible refine (wal_Members.calls kj1 _ _ l0_4 true _ ?side1 ?side2 A_2.out).mono ?_); (case side1 => exact cl_ (Kd.C_below HR_1.out HB.out)); (case side2 => exact HC_1.out); rintro e w' ⟨rfl, ⟨nd, rfl⟩⟩))
    go_ret
    exact ⟨fz_, bl_1 HB GE_1⟩
   replace c_28 := Bool.eq_false_iff.mpr c_28
   subst c_28
   rw [if_neg (show ¬ (false = true) by decide)] at H
   obtain rfl := Option.some.inj H
   obtain ⟨_, _, _, _, _, _, _, _, _, _⟩ := c5_ BK_1
   go_wp2_with (first | (go_at_call 69; (with_reducible refine (wal_Members.calls kj1 _ _ l0_4 false _ ?side1 ?side2 A_2.out).mono ?_); (case side1 => exact cl_ (Kd.C_below HR_1.out HB.out)); (case side2 => exact HC_1.out); rintro e w' ⟨rfl, ⟨nd, rfl⟩⟩))
   go_ret
   exact ⟨fz_, bl_1 HB GE_1⟩

end Go.Proofs.Ytcdibodjkdoknaa.PM
