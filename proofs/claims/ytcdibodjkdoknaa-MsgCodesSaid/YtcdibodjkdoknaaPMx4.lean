-- By a program of this session.
import Derived.Test.YtcdibodjkdoknaaPMx0
import Derived.Test.YtcdibodjkdoknaaPMx2
import Derived.Test.YtcdibodjkdoknaaPMx3
namespace Go.Proofs.Ytcdibodjkdoknaa.PM
open Go.RowKit YtcdibodjkdoknaaW.PrintWords YtcdibodjkdoknaaW.PrintLast YtcdibodjkdoknaaW.PrintMore Sh Ytcdibodjkdoknaa.Op
attribute [local go_sem] max2_int min2_int max_two min_two max_three min_three max_four min_four
set_option linter.unusedVariables false
set_option maxHeartbeats 80000000
set_option maxRecDepth 100000
set_option linter.unusedSimpArgs false

mutual
def msg_Check.j0 : Nat → Bool → Int → Int → Int → Int → Int → Bool → List (S67) → Int → Int → List Int → ByteArray → Option (Int)
 | 0, _, _, _, _, _, _, _, _, _, _, _, _ => none
 | k + 1, x3, x118000, x118001, x118002, x118003, x118004, x118005, x118006, x118007, x118008, x118009, x118010 => if x118000 = 5 then (if x3 = true then ((snap_Check.f k x118007 x118008 x118009 x118010).bind fun t119 => (if t119 = 0 then (msg_Check.j1 k (decide (x118007 > 0)) x118000 x118001 x118002 x118003 x118004 x118005 x118006 x118007 x118008 x118009 x118010) else (msg_Check.j1 k false x118000 x118001 x118002 x118003 x118004 x118005 x118006 x118007 x118008 x118009 x118010))) else (msg_Check.j1 k false x118000 x118001 x118002 x118003 x118004 x118005 x118006 x118007 x118008 x118009 x118010)) else (msg_Check.j1 k x3 x118000 x118001 x118002 x118003 x118004 x118005 x118006 x118007 x118008 x118009 x118010)
def msg_Check.j1 : Nat → Bool → Int → Int → Int → Int → Int → Bool → List (S67) → Int → Int → List Int → ByteArray → Option (Int)
 | 0, _, _, _, _, _, _, _, _, _, _, _, _ => none
 | k + 1, x3, x118000, x118001, x118002, x118003, x118004, x118005, x118006, x118007, x118008, x118009, x118010 => msg_Check.l0 k x3 x118002 x118006 (x118006.length : Int) 0
def msg_Check.l0 : Nat → Bool → Int → List (S67) → Int → Int → Option (Int)
 | 0, _, _, _, _, _ => none
 | k + 1, x3, x4, x49, x50, x51 => if x51 < x50 then (if 0 ≤ x51 then (if x51 < (x49.length : Int) then ((wal_Check.f k ((rd_T67 x49 x51).f0) ((rd_T67 x49 x51).f1) ((rd_T67 x49 x51).f2) ((rd_T67 x49 x51).f3) ((rd_T67 x49 x51).f4)).bind fun t122 => (if t122 = 0 then (if ((rd_T67 x49 x51).f0) = (IntKind.u64.wrap (x4 + 1)) then (msg_Check.l0 k x3 (IntKind.u64.wrap (x4 + 1)) x49 x50 (wrap64 (x51 + 1))) else (some 4)) else (some 4))) else (none)) else (none)) else (if x3 = true then (some 0) else (some 4))
end
def msg_Check.f (k : Nat) (a0_0 : Int) (a0_1 : Int) (a0_2 : Int) (a0_3 : Int) (a0_4 : Int) (a0_5 : Bool) (l0_6 : List (S67)) (a0_7 : Int) (a0_8 : Int) (l0_9 : List Int) (a0_10 : ByteArray) : Option (Int) := if a0_0 > 0 then (if a0_0 < 6 then (if a0_1 > 0 then ((msg_whole.f a0_0 a0_1 a0_2 a0_3 a0_4 a0_5 l0_6 a0_7 a0_8 l0_9 a0_10).bind fun t118 => (if t118 = true then (msg_Check.j0 k (decide ((l0_6.length : Int) ≤ 8)) a0_0 a0_1 a0_2 a0_3 a0_4 a0_5 l0_6 a0_7 a0_8 l0_9 a0_10) else (msg_Check.j0 k false a0_0 a0_1 a0_2 a0_3 a0_4 a0_5 l0_6 a0_7 a0_8 l0_9 a0_10))) else (msg_Check.j0 k false a0_0 a0_1 a0_2 a0_3 a0_4 a0_5 l0_6 a0_7 a0_8 l0_9 a0_10)) else (msg_Check.j0 k false a0_0 a0_1 a0_2 a0_3 a0_4 a0_5 l0_6 a0_7 a0_8 l0_9 a0_10)) else (msg_Check.j0 k false a0_0 a0_1 a0_2 a0_3 a0_4 a0_5 l0_6 a0_7 a0_8 l0_9 a0_10)
theorem msg_Check.mono_l : ∀ k, (∀ y0 y1 y2 y3 y4 y5 y6 y7 y8 y9 y10 y11, LeO (msg_Check.j0 k y0 y1 y2 y3 y4 y5 y6 y7 y8 y9 y10 y11) (msg_Check.j0 (k + 1) y0 y1 y2 y3 y4 y5 y6 y7 y8 y9 y10 y11)) ∧ (∀ y0 y1 y2 y3 y4 y5 y6 y7 y8 y9 y10 y11, LeO (msg_Check.j1 k y0 y1 y2 y3 y4 y5 y6 y7 y8 y9 y10 y11) (msg_Check.j1 (k + 1) y0 y1 y2 y3 y4 y5 y6 y7 y8 y9 y10 y11)) ∧ (∀ y0 y1 y2 y3 y4, LeO (msg_Check.l0 k y0 y1 y2 y3 y4) (msg_Check.l0 (k + 1) y0 y1 y2 y3 y4))
 | 0 => ⟨fun _ _ _ _ _ _ _ _ _ _ _ _ r h => by simp [msg_Check.j0] at h, fun _ _ _ _ _ _ _ _ _ _ _ _ r h => by simp [msg_Check.j1] at h, fun _ _ _ _ _ r h => by simp [msg_Check.l0] at h⟩
 | k + 1 => by
  obtain ⟨ih0, ih1, ih2⟩ := msg_Check.mono_l k
  refine ⟨?_, ?_, ?_⟩
  ·intro y0 y1 y2 y3 y4 y5 y6 y7 y8 y9 y10 y11
   unfold msg_Check.j0
   repeat' with_reducible first | apply ih0 | apply ih1 | apply ih2 | apply snap_Check.mono | apply wal_Check.mono | apply LeO.refl | apply LeO.none | apply LeO.ite | refine LeO.bind ?_ (fun _ => ?_)
  ·intro y0 y1 y2 y3 y4 y5 y6 y7 y8 y9 y10 y11
   unfold msg_Check.j1
   repeat' with_reducible first | apply ih0 | apply ih1 | apply ih2 | apply snap_Check.mono | apply wal_Check.mono | apply LeO.refl | apply LeO.none | apply LeO.ite | refine LeO.bind ?_ (fun _ => ?_)
  ·intro y0 y1 y2 y3 y4
   unfold msg_Check.l0
   repeat' with_reducible first | apply ih0 | apply ih1 | apply ih2 | apply snap_Check.mono | apply wal_Check.mono | apply LeO.refl | apply LeO.none | apply LeO.ite | refine LeO.bind ?_ (fun _ => ?_)
theorem msg_Check.mono : ∀ a0 a1 a2 a3 a4 a5 a6 a7 a8 a9 a10 k, LeO (msg_Check.f k a0 a1 a2 a3 a4 a5 a6 a7 a8 a9 a10) (msg_Check.f (k + 1) a0 a1 a2 a3 a4 a5 a6 a7 a8 a9 a10) := by
 intro a0 a1 a2 a3 a4 a5 a6 a7 a8 a9 a10 k
 obtain ⟨ih0, ih1, ih2⟩ := msg_Check.mono_l k
 unfold msg_Check.f
 repeat' with_reducible first | apply ih0 | apply ih1 | apply ih2 | apply snap_Check.mono | apply wal_Check.mono | apply LeO.refl | apply LeO.none | apply LeO.ite | refine LeO.bind ?_ (fun _ => ?_)
theorem msg_Check.calls (k : Nat) (a0_0 : Int) (a0_1 : Int) (a0_2 : Int) (a0_3 : Int) (a0_4 : Int) (a0_5 : Bool) (A0_6 : Option Addr) (c0_6 : Nat) (l0_6 : List (S67)) (a0_7 : Int) (a0_8 : Int) (A0_9 : Option Addr) (c0_9 : Nat) (l0_9 : List Int) (a0_10 : ByteArray) (r : Int) (w : World) (hr0_6 : Kd.C k67 w A0_6 l0_6.length l0_6) (hc0_6 : l0_6.length ≤ c0_6) (hr0_9 : Kd.C (Kd.int .i64) w A0_9 l0_9.length l0_9) (hc0_9 : l0_9.length ≤ c0_9) (h : msg_Check.f k a0_0 a0_1 a0_2 a0_3 a0_4 a0_5 l0_6 a0_7 a0_8 l0_9 a0_10 = some r) :
  Calls Try.prog 19 #[.agg #[.int .u8 a0_0, .int .u64 a0_1, .int .u64 a0_2, .int .u64 a0_3, .int .u64 a0_4, .bool a0_5, .slice A0_6 l0_6.length c0_6, .int .u64 a0_7, .int .u64 a0_8, .slice A0_9 l0_9.length c0_9, .string a0_10]] w fun e w' => e = .returned (.int .i64 r) ∧ Below w.heap.size w w' := by
 have hu_1 := Try.underlying37
 have hu_2 := Try.underlying35
 have hu_3 := Try.underlying67
 have HR_1 := a_ hr0_6
 have HC_1 := a_ hc0_6
 clear hr0_6 hc0_6
 have HR_2 := a_ hr0_9
 have HC_2 := a_ hc0_9
 clear hr0_9 hc0_9
 have HB := a_ (Below.refl w.heap.size w)
 have H := h
 unfold msg_Check.f at H
 clear h
 have HC_3 := a_ H
 clear H
 go_enter Try.func19, Try.ntmps19
 go_upto_region 1 with (first | ((with_reducible refine gd_ 1 ?_); (try (refine gate_guard (by rfl) ?_; dsimp only)); refine bx_ 1 #[.int .u8 a0_0, .int .u64 a0_1, .int .u64 a0_2, .int .u64 a0_3, .int .u64 a0_4, .bool a0_5, .slice A0_6 l0_6.length c0_6, .int .u64 a0_7, .int .u64 a0_8, .slice A0_9 l0_9.length c0_9, .string a0_10] 37 ?_; intro gb_1 hg w_1 hbox hb; have BK_1 := a_ (hbox); have GE_1 := a_ (bs_0 hg HB); replace HB := hB_ (bl_ HB) hb; clear hb hbox hg))
 (try (go_step3; go_step))
 (try simp only [Act.put, List.setIfInBounds_toArray, List.set_cons_zero, List.set_cons_succ])
 go_cut [3] (fun v3 wc => ∃ (kq : Nat) (x3_1 : Bool), v3 = .bool x3_1 ∧ Aside0 (msg_Check.j0 kq x3_1 a0_0 a0_1 a0_2 a0_3 a0_4 a0_5 l0_6 a0_7 a0_8 l0_9 a0_10 = some r) ∧ Aside0 (kq ≤ k) ∧ Aside0 (wc.heap[gb_1]? = some (.cells #[.int .u8 a0_0, .int .u64 a0_1, .int .u64 a0_2, .int .u64 a0_3, .int .u64 a0_4, .bool a0_5, (.slice A0_6 l0_6.length c0_6), .int .u64 a0_7, .int .u64 a0_8, (.slice A0_9 l0_9.length c0_9), .string a0_10] 37 (0, 0))) ∧ Aside0 (Below w.heap.size w wc))
 case first =>
  have H := HC_3.out
  clear HC_3
  by_cases c_1 : a0_0 > 0
  rotate_left
  focus
   rw [if_neg c_1] at H
   have c_2 : decide (0 < a0_0) = false := decide_eq_false c_1
   clear c_1
   (first | rw [c_2] | (simp only [i64_w, i32_w]; rw [c_2]) | skip)
   have H' := a_ H
   clear H
   obtain ⟨_, _, _, _, _, _, _, _, _, _, _, _, _, _, _, _, _, _, _, _, _, _⟩ := c11_ BK_1
   have L0_ := trivial
  rotate_left
  focus
   rw [if_pos c_1] at H
   have c_2 : decide (0 < a0_0) = true := decide_eq_true c_1
   clear c_1
   (first | rw [c_2] | (simp only [i64_w, i32_w]; rw [c_2]) | skip)
   by_cases c_3 : a0_0 < 6
   rotate_left
   focus
    rw [if_neg c_3] at H
    have c_4 : decide (a0_0 < 6) = false := decide_eq_false c_3
    clear c_3
    have H' := a_ H
    clear H
    obtain ⟨_, _, _, _, _, _, _, _, _, _, _, _, _, _, _, _, _, _, _, _, _, _⟩ := c11_ BK_1
    have L0_ := trivial
   rotate_left
   focus
    rw [if_pos c_3] at H
    have c_4 : decide (a0_0 < 6) = true := decide_eq_true c_3
    clear c_3
    by_cases c_5 : a0_1 > 0
    rotate_left
    focus
     rw [if_neg c_5] at H
     have c_6 : decide (0 < a0_1) = false := decide_eq_false c_5
     clear c_5
     have H' := a_ H
     clear H
     obtain ⟨_, _, _, _, _, _, _, _, _, _, _, _, _, _, _, _, _, _, _, _, _, _⟩ := c11_ BK_1
     have L0_ := trivial
    rotate_left
    focus
     rw [if_pos c_5] at H
     have c_6 : decide (0 < a0_1) = true := decide_eq_true c_5
     clear c_5
     obtain ⟨t_1, A_1, H⟩ := Option.bind_eq_some_iff.mp H
     try dsimp only at H
     have A_2 := a_ A_1
     clear A_1
     by_cases c_7 : t_1 = true
     rotate_left
     focus
      replace c_7 := Bool.eq_false_iff.mpr c_7
      subst c_7
      rw [if_neg (show ¬ (false = true) by decide)] at H
      have H' := a_ H
      clear H
      obtain ⟨_, _, _, _, _, _, _, _, _, _, _, _, _, _, _, _, _, _, _, _, _, _⟩ := c11_ BK_1
      have L1_ := trivial
     rotate_left
     subst c_7
     rw [if_pos rfl] at H
     have H' := a_ H
     clear H
     obtain ⟨_, _, _, _, _, _, _, _, _, _, _, _, _, _, _, _, _, _, _, _, _, _⟩ := c11_ BK_1
     have L2_ := trivial
  all_goals
   first
   | (have _ := L0_
      go_wp2
      repeat (go_step3; try (go_wp2))
      go_meet
      case rel => exact ⟨_, (false), fz_, H', ⟨by first | omega | exact Nat.le_refl _⟩, ⟨bk_ BK_1⟩, ⟨bl_1 HB GE_1⟩⟩)
   | (have _ := L1_
      go_wp2_with (go_at_call 35; (with_reducible refine (msg_whole.calls a0_0 a0_1 a0_2 a0_3 a0_4 a0_5 _ _ l0_6 a0_7 a0_8 _ _ l0_9 a0_10 _ _ ?side1 ?side2 ?side3 ?side4 A_2.out).mono ?_); (case side1 => exact cl_ (Kd.C_below HR_1.out HB.out)); (case side2 => exact HC_1.out); (case side3 => exact cl_ (Kd.C_below HR_2.out HB.out)); (case side4 => exact HC_2.out); rintro e w_2 ⟨rfl, hb⟩; replace BK_1 := bB_ BK_1 hb; replace HB := hB_ (bl_1 HB GE_1) hb; (try clear hb))
      repeat (go_step3; try (go_wp2_with (first | (go_at_call 35; (with_reducible refine (msg_whole.calls a0_0 a0_1 a0_2 a0_3 a0_4 a0_5 _ _ l0_6 a0_7 a0_8 _ _ l0_9 a0_10 false _ ?side1 ?side2 ?side3 ?side4 A_2.out).mono ?_); (case side1 => exact cl_ (Kd.C_below HR_1.out HB.out)); (case side2 => exact HC_1.out); (case side3 => exact cl_ (Kd.C_below HR_2.out HB.out)); (case side4 => exact HC_2.out); rintro e w_2 ⟨rfl, hb⟩; replace BK_1 := bB_ BK_1 hb; replace HB := hB_ (bl_1 HB GE_1) hb; (try clear hb)))))
      go_meet
      case rel => exact ⟨_, (false), fz_, H', ⟨by first | omega | exact Nat.le_refl _⟩, ⟨bk_ BK_1⟩, ⟨bl_1 HB GE_1⟩⟩)
   | (have _ := L2_
      go_wp2_with (go_at_call 35; (with_reducible refine (msg_whole.calls a0_0 a0_1 a0_2 a0_3 a0_4 a0_5 _ _ l0_6 a0_7 a0_8 _ _ l0_9 a0_10 _ _ ?side1 ?side2 ?side3 ?side4 A_2.out).mono ?_); (case side1 => exact cl_ (Kd.C_below HR_1.out HB.out)); (case side2 => exact HC_1.out); (case side3 => exact cl_ (Kd.C_below HR_2.out HB.out)); (case side4 => exact HC_2.out); rintro e w_2 ⟨rfl, hb⟩; replace BK_1 := bB_ BK_1 hb; replace HB := hB_ (bl_1 HB GE_1) hb; (try clear hb); obtain ⟨_, _, _, _, _, _, _, _, _, _, _, _, _, _, _, _, _, _, _, _, _, _⟩ := c11_ BK_1)
      repeat (go_step3; try (go_wp2_with (first | (go_at_call 35; (with_reducible refine (msg_whole.calls a0_0 a0_1 a0_2 a0_3 a0_4 a0_5 _ _ l0_6 a0_7 a0_8 _ _ l0_9 a0_10 true _ ?side1 ?side2 ?side3 ?side4 A_2.out).mono ?_); (case side1 => exact cl_ (Kd.C_below HR_1.out HB.out)); (case side2 => exact HC_1.out); (case side3 => exact cl_ (Kd.C_below HR_2.out HB.out)); (case side4 => exact HC_2.out); rintro e w_2 ⟨rfl, hb⟩; replace BK_1 := bB_ BK_1 hb; replace HB := hB_ (bl_1 HB GE_1) hb; (try clear hb); obtain ⟨_, _, _, _, _, _, _, _, _, _, _, _, _, _, _, _, _, _, _, _, _, _⟩ := c11_ BK_1))))
      go_meet
      case rel => exact ⟨_, (decide ((l0_6.length : Int) ≤ 8)), fz_, H', ⟨by first | omega | exact Nat.le_refl _⟩, ⟨bk_ BK_1⟩, ⟨bl_1 HB GE_1⟩⟩)
 case rest =>
  clear HC_3
  try clear c1
  try clear p2
  try clear c_1
  try clear c4b0
  try clear c5
  try clear c5b0
  try clear c6
  try clear c6b0
  try clear c8
  obtain ⟨kq, x_1, rfl, HA, HJ_1, BK_1, HB⟩ := hcut
  cases kq with
  | zero => exact absurd HA.out (by simp [msg_Check.j0])
  | succ kj1 =>
   have H := HA.out
   clear HA
   simp only [msg_Check.j0] at H
   have HC_4 := a_ H
   clear H
   obtain ⟨_, _, _, _, _, _, _, _, _, _, _, _, _, _, _, _, _, _, _, _, _, _⟩ := c11_ BK_1
   go_upto_if 32 with (fail)
   (try (go_step3; go_step))
   go_cut [3] (fun v3 wc => ∃ (kq : Nat) (x3_16 : Bool), v3 = .bool x3_16 ∧ Aside0 (msg_Check.j1 kq x3_16 a0_0 a0_1 a0_2 a0_3 a0_4 a0_5 l0_6 a0_7 a0_8 l0_9 a0_10 = some r) ∧ Aside0 (kq ≤ kj1) ∧ Aside0 (wc.heap[gb_1]? = some (.cells #[.int .u8 a0_0, .int .u64 a0_1, .int .u64 a0_2, .int .u64 a0_3, .int .u64 a0_4, .bool a0_5, (.slice A0_6 l0_6.length c0_6), .int .u64 a0_7, .int .u64 a0_8, (.slice A0_9 l0_9.length c0_9), .string a0_10] 37 (0, 0))) ∧ Aside0 (Below w.heap.size w wc))
   case first =>
    have H := HC_4.out
    clear HC_4
    by_cases c_2 : a0_0 = 5
    rotate_left
    ·rw [if_neg c_2] at H
     have c_3 : (a0_0 == 5) = false := beq_eq_false_iff_ne.mpr c_2
     have c_4 : (a0_0 != 5) = true := bne_iff_ne.mpr c_2
     (first | rw [c_3] | (simp only [i64_w, i32_w]; rw [c_3]) | skip)
     have H' := a_ H
     clear H
     go_wp2
     repeat (go_step3; try (go_wp2))
     go_meet
     case rel => exact ⟨_, (x_1), fz_, H', ⟨by have := HJ_1.out; first | omega | exact Nat.le_refl _⟩, ⟨bk_ BK_1⟩, ⟨bl_1 HB GE_1⟩⟩
    rw [if_pos c_2] at H
    have c_3 : (a0_0 == 5) = true := beq_iff_eq.mpr c_2
    have c_4 : (a0_0 != 5) = false := bne_eq_false_iff_eq.mpr c_2
    clear c_2
    (first | rw [c_3] | (simp only [i64_w, i32_w]; rw [c_3]) | skip)
    by_cases c_5 : x_1 = true
    rotate_left
    ·replace c_5 := Bool.eq_false_iff.mpr c_5
     subst c_5
     rw [if_neg (show ¬ (false = true) by decide)] at H
     have H' := a_ H
     clear H
     go_wp2
     repeat (go_step3; try (go_wp2))
     go_meet
     case rel => exact ⟨_, (false), fz_, H', ⟨by have := HJ_1.out; first | omega | exact Nat.le_refl _⟩, ⟨bk_ BK_1⟩, ⟨bl_1 HB GE_1⟩⟩
    subst c_5
    rw [if_pos rfl] at H
    obtain ⟨t_1, A_1, H⟩ := Option.bind_eq_some_iff.mp H
    try dsimp only at H
    have A_2 := a_ A_1
    clear A_1
    by_cases c_6 : t_1 = 0
    rotate_left
    ·rw [if_neg c_6] at H
     have c_7 : (t_1 == 0) = false := beq_eq_false_iff_ne.mpr c_6
     have c_8 : (t_1 != 0) = true := bne_iff_ne.mpr c_6
     have H' := a_ H
     clear H
     obtain ⟨_, _, _, _, _, _, _, _, _, _, _, _, _, _, _, _, _, _, _, _, _, _⟩ := c11_ BK_1
     go_wp2_with (first | (go_at_call 36; (with_reducible refine (snap_Check.calls kj1 a0_7 a0_8 _ _ l0_9 a0_10 t_1 _ ?side1 ?side2 A_2.out).mono ?_); (case side1 => exact cl_ (Kd.C_below HR_2.out HB.out)); (case side2 => exact HC_2.out); rintro e w_2 ⟨rfl, hb⟩; replace BK_1 := bB_ BK_1 hb; replace HB := hB_ (bl_1 HB GE_1) hb; (try clear hb)))
     repeat (go_step3; try (go_wp2_with (first | (go_at_call 36; (with_reducible refine (snap_Check.calls kj1 a0_7 a0_8 _ _ l0_9 a0_10 t_1 _ ?side1 ?side2 A_2.out).mono ?_); (case side1 => exact cl_ (Kd.C_below HR_2.out HB.out)); (case side2 => exact HC_2.out); rintro e w_2 ⟨rfl, hb⟩; replace BK_1 := bB_ BK_1 hb; replace HB := hB_ (bl_1 HB GE_1) hb; (try clear hb)))))
     go_meet
     case rel => exact ⟨_, (false), fz_, H', ⟨by have := HJ_1.out; first | omega | exact Nat.le_refl _⟩, ⟨bk_ BK_1⟩, ⟨bl_1 HB GE_1⟩⟩
    rw [if_pos c_6] at H
    have c_7 : (t_1 == 0) = true := beq_iff_eq.mpr c_6
    have c_8 : (t_1 != 0) = false := bne_eq_false_iff_eq.mpr c_6
    clear c_6
    have H' := a_ H
    clear H
    obtain ⟨_, _, _, _, _, _, _, _, _, _, _, _, _, _, _, _, _, _, _, _, _, _⟩ := c11_ BK_1
    go_wp2_with (first | (go_at_call 36; (with_reducible refine (snap_Check.calls kj1 a0_7 a0_8 _ _ l0_9 a0_10 t_1 _ ?side1 ?side2 A_2.out).mono ?_); (case side1 => exact cl_ (Kd.C_below HR_2.out HB.out)); (case side2 => exact HC_2.out); rintro e w_3 ⟨rfl, hb⟩; replace BK_1 := bB_ BK_1 hb; replace HB := hB_ (bl_1 HB GE_1) hb; (try clear hb); obtain ⟨_, _, _, _, _, _, _, _, _, _, _, _, _, _, _, _, _, _, _, _, _, _⟩ := c11_ BK_1))
    repeat (go_step3; try (go_wp2_with (first | (go_at_call 36; (with_reducible refine (snap_Check.calls kj1 a0_7 a0_8 _ _ l0_9 a0_10 t_1 _ ?side1 ?side2 A_2.out).mono ?_); (case side1 => exact cl_ (Kd.C_below HR_2.out HB.out)); (case side2 => exact HC_2.out); rintro e w_3 ⟨rfl, hb⟩; replace BK_1 := bB_ BK_1 hb; replace HB := hB_ (bl_1 HB GE_1) hb; (try clear hb); obtain ⟨_, _, _, _, _, _, _, _, _, _, _, _, _, _, _, _, _, _, _, _, _, _⟩ := c11_ BK_1))))
    go_meet
    case rel => exact ⟨_, (decide (a0_7 > 0)), fz_, H', ⟨by have := HJ_1.out; first | omega | exact Nat.le_refl _⟩, ⟨bk_ BK_1⟩, ⟨bl_1 HB GE_1⟩⟩
   case rest =>
    clear HC_4
    try clear c1
    try clear c2
    try clear p2
    try clear c_1
    try clear c4b0
    try clear c5
    try clear c5b0
    try clear c6
    try clear c6b0
    try clear c8
    try clear c_2
    try clear c_3
    try clear c_4
    try clear c_5
    try clear c_6
    try clear c_7
    try clear c_8
    try clear p2
    obtain ⟨kq, x_2, rfl, HA, HJ_2, BK_1, HB⟩ := hcut
    cases kq with
    | zero => exact absurd HA.out (by simp [msg_Check.j1])
    | succ kj16 =>
     have H := HA.out
     clear HA
     simp only [msg_Check.j1] at H
     have H' := a_ H
     clear H
     obtain ⟨_, _, _, _, _, _, _, _, _, _, _, _, _, _, _, _, _, _, _, _, _, _⟩ := c11_ BK_1
     go_wp2
     repeat (go_step3; try (go_wp2))
     go_loopg [3, 4, 51] kj16 (fun kq v3 v4 v51 w' => ∃ (x3_3 : Bool) (x4_3 : Int) (x51_3 : Int), v3 = .bool x3_3 ∧ v4 = .int .u64 x4_3 ∧ v51 = .int .i64 x51_3 ∧ Aside0 (msg_Check.l0 kq x3_3 x4_3 l0_6 (l0_6.length : Int) x51_3 = some r) ∧ Aside0 (kq ≤ kj16) ∧ Aside0 (w'.heap[gb_1]? = some (.cells #[.int .u8 a0_0, .int .u64 a0_1, .int .u64 a0_2, .int .u64 a0_3, .int .u64 a0_4, .bool a0_5, (.slice A0_6 l0_6.length c0_6), .int .u64 a0_7, .int .u64 a0_8, (.slice A0_9 l0_9.length c0_9), .string a0_10] 37 (0, 0))) ∧ Aside0 (Below w.heap.size w w'))
     case atStart => exact ⟨(x_2), (a0_2), (0), fz_, fz_, fz_, H', ⟨Nat.le_refl _⟩, ⟨bk_ BK_1⟩, ⟨bl_1 HB GE_1⟩⟩
     case round =>
      clear H'
      try clear c1
      try clear c2
      try clear p2
      try clear c_1
      try clear c4b0
      try clear c5
      try clear c5b0
      try clear c6
      try clear c6b0
      try clear c8
      try clear c_2
      try clear c_3
      try clear c_4
      try clear c_5
      try clear c_6
      try clear c_7
      try clear c_8
      try clear p2
      obtain ⟨x_3, x_4, x_5, rfl, rfl, rfl, HA, HK_1, BK_1, HB⟩ := hrel
      cases gk with
      | zero => exact absurd HA.out (by simp [msg_Check.l0])
      | succ k3 =>
       have H := HA.out
       clear HA
       simp only [msg_Check.l0] at H
       by_cases c_9 : x_5 < (l0_6.length : Int)
       rotate_left
       ·rw [if_neg c_9] at H
        have c_10 : decide (x_5 < (l0_6.length : Int)) = false := decide_eq_false c_9
        clear c_9
        by_cases c_11 : x_3 = true
        ·subst c_11
         rw [if_pos rfl] at H
         obtain rfl := Option.some.inj H
         go_wp2
         repeat (go_step3; try (go_wp2))
         try dsimp only [Exit.noGoto]
         go_ret
         exact ⟨fz_, bl_1 HB GE_1⟩
        replace c_11 := Bool.eq_false_iff.mpr c_11
        subst c_11
        rw [if_neg (show ¬ (false = true) by decide)] at H
        obtain rfl := Option.some.inj H
        go_wp2
        repeat (go_step3; try (go_wp2))
        try dsimp only [Exit.noGoto]
        go_ret
        exact ⟨fz_, bl_1 HB GE_1⟩
       rw [if_pos c_9] at H
       have c_10 : decide (x_5 < (l0_6.length : Int)) = true := decide_eq_true c_9
       clear c_9
       by_cases c_12 : 0 ≤ x_5
       rotate_left
       ·rw [if_neg c_12] at H
        exact absurd H (by simp)
       rw [if_pos c_12] at H
       have c_13 : decide (0 ≤ x_5) = true := decide_eq_true c_12
       clear c_12
       by_cases c_14 : x_5 < (l0_6.length : Int)
       rotate_left
       ·rw [if_neg c_14] at H
        exact absurd H (by simp)
       rw [if_pos c_14] at H
       have c_15 : decide (x_5 < (l0_6.length : Int)) = true := decide_eq_true c_14
       clear c_14
       obtain ⟨t_2, A_3, H⟩ := Option.bind_eq_some_iff.mp H
       try dsimp only at H
       have A_4 := a_ A_3
       clear A_3
       by_cases c_16 : t_2 = 0
       rotate_left
       ·rw [if_neg c_16] at H
        have c_17 : (t_2 == 0) = false := beq_eq_false_iff_ne.mpr c_16
        have c_18 : (t_2 != 0) = true := bne_iff_ne.mpr c_16
        obtain rfl := Option.some.inj H
        have p_1 : 0 ≤ (x_5 : Int) := od_
        have q_1 : x_5 < (l0_6.length : Int) := od_
        obtain ⟨ad_1, A_5, c_19, e_1, hx_1, hx_2, hx_3, hx_4, hx_5, hl_1, hi_1⟩ := at_T67 HR_1.out x_5 p_1 q_1
        cases e_1
        replace hx_1 := hc_ HB hx_1
        replace hx_2 := hc_ HB hx_2
        replace hx_3 := hc_ HB hx_3
        replace hx_4 := hc_ HB hx_4
        replace hx_5 := hc_ HB hx_5
        have HR_3 := a_ hi_1
        have HC_5 := a_ hl_1
        clear hi_1 hl_1
        replace p_1 := eq_true p_1
        replace q_1 := eq_true q_1
        go_wp2_with (first | ((with_reducible refine gd_ 6 ?_); (try (refine gate_guard (by rfl) ?_; dsimp only)); refine bx_ 6 #[.int .u64 0, .int .u64 0, .int .u8 0, .string (⟨#[]⟩ : ByteArray), .slice none 0 0] 67 ?_; intro gb_2 hg w_4 hbox hb; have BK_2 := a_ (hbox); have GE_2 := a_ (bs_1 hg HB GE_1); replace HB := hB_ (bl_1 HB GE_1) hb; have NB_1 := nB_ hg BK_1; have NB_2 := nC_ hg BK_1; replace BK_1 := bB_ BK_1 hb; clear hb hbox hg; have hnb_1 := NB_2.out; have hnc_1 := NB_1.out; obtain ⟨_, _, _, _, _, _, _, _, _, _⟩ := c5_ BK_2) | ((with_reducible refine gk_ 37 ?_); refine gl_ (some 59) Try.func37 #[.agg #[.int .u64 ((rd_T67 l0_6 x_5).f0), .int .u64 ((rd_T67 l0_6 x_5).f1), .int .u8 ((rd_T67 l0_6 x_5).f2), .string ((rd_T67 l0_6 x_5).f3), .slice A_5 ((rd_T67 l0_6 x_5).f4).length c_19]] ?_; (with_reducible refine (wal_Check.calls k3 ((rd_T67 l0_6 x_5).f0) ((rd_T67 l0_6 x_5).f1) ((rd_T67 l0_6 x_5).f2) ((rd_T67 l0_6 x_5).f3) _ _ ((rd_T67 l0_6 x_5).f4) t_2 _ ?side1 ?side2 A_4.out).mono ?_); (case side1 => exact Kd.C_below HR_3.out (bl_2 HB GE_1 GE_2)); (case side2 => exact HC_5.out); rintro e w_5 ⟨rfl, hb⟩; refine ⟨_, rfl, ?_⟩; replace BK_1 := a_ (blk_below (g := gb_1) (o := .cells #[.int .u8 a0_0, .int .u64 a0_1, .int .u64 a0_2, .int .u64 a0_3, .int .u64 a0_4, .bool a0_5, .slice (some ad_1) l0_6.length c0_6, .int .u64 a0_7, .int .u64 a0_8, .slice A0_9 l0_9.length c0_9, .string a0_10] 37 (0, 0)) (bp_1 BK_1 NB_1) hb); replace BK_2 := a_ (blk_below (g := gb_2) (o := .cells #[.int .u64 ((rd_T67 l0_6 x_5).f0), .int .u64 ((rd_T67 l0_6 x_5).f1), .int .u8 ((rd_T67 l0_6 x_5).f2), .string ((rd_T67 l0_6 x_5).f3), .slice A_5 ((rd_T67 l0_6 x_5).f4).length c_19] 67 (0, 0)) (bp_0 BK_2) hb); replace HB := hB_ (bl_2 HB GE_1 GE_2) hb; (try clear hb)))
        repeat (go_step3; try (go_wp2_with (first | ((with_reducible refine gd_ 6 ?_); (try (refine gate_guard (by rfl) ?_; dsimp only)); refine bx_ 6 #[.int .u64 0, .int .u64 0, .int .u8 0, .string (⟨#[]⟩ : ByteArray), .slice none 0 0] 67 ?_; intro gb_2 hg w_4 hbox hb; have BK_2 := a_ (hbox); have GE_2 := a_ (bs_1 hg HB GE_1); replace HB := hB_ (bl_1 HB GE_1) hb; have NB_1 := nB_ hg BK_1; have NB_2 := nC_ hg BK_1; replace BK_1 := bB_ BK_1 hb; clear hb hbox hg; have hnb_1 := NB_2.out; have hnc_1 := NB_1.out; obtain ⟨_, _, _, _, _, _, _, _, _, _⟩ := c5_ BK_2) | ((with_reducible refine gk_ 37 ?_); refine gl_ (some 59) Try.func37 #[.agg #[.int .u64 ((rd_T67 l0_6 x_5).f0), .int .u64 ((rd_T67 l0_6 x_5).f1), .int .u8 ((rd_T67 l0_6 x_5).f2), .string ((rd_T67 l0_6 x_5).f3), .slice A_5 ((rd_T67 l0_6 x_5).f4).length c_19]] ?_; (with_reducible refine (wal_Check.calls k3 ((rd_T67 l0_6 x_5).f0) ((rd_T67 l0_6 x_5).f1) ((rd_T67 l0_6 x_5).f2) ((rd_T67 l0_6 x_5).f3) _ _ ((rd_T67 l0_6 x_5).f4) t_2 _ ?side1 ?side2 A_4.out).mono ?_); (case side1 => exact Kd.C_below HR_3.out (bl_2 HB GE_1 GE_2)); (case side2 => exact HC_5.out); rintro e w_5 ⟨rfl, hb⟩; refine ⟨_, rfl, ?_⟩; replace BK_1 := a_ (blk_below (g := gb_1) (o := .cells #[.int .u8 a0_0, .int .u64 a0_1, .int .u64 a0_2, .int .u64 a0_3, .int .u64 a0_4, .bool a0_5, .slice (some ad_1) l0_6.length c0_6, .int .u64 a0_7, .int .u64 a0_8, .slice A0_9 l0_9.length c0_9, .string a0_10] 37 (0, 0)) (bp_1 BK_1 NB_1) hb); replace BK_2 := a_ (blk_below (g := gb_2) (o := .cells #[.int .u64 ((rd_T67 l0_6 x_5).f0), .int .u64 ((rd_T67 l0_6 x_5).f1), .int .u8 ((rd_T67 l0_6 x_5).f2), .string ((rd_T67 l0_6 x_5).f3), .slice A_5 ((rd_T67 l0_6 x_5).f4).length c_19] 67 (0, 0)) (bp_0 BK_2) hb); replace HB := hB_ (bl_2 HB GE_1 GE_2) hb; (try clear hb)))))
        try dsimp only [Exit.noGoto]
        go_ret
        exact ⟨fz_, bl_2 HB GE_1 GE_2⟩
       rw [if_pos c_16] at H
       have c_17 : (t_2 == 0) = true := beq_iff_eq.mpr c_16
       have c_18 : (t_2 != 0) = false := bne_eq_false_iff_eq.mpr c_16
       clear c_16
       by_cases c_20 : ((rd_T67 l0_6 x_5).f0) = (IntKind.u64.wrap (x_4 + 1))
       rotate_left
       ·rw [if_neg c_20] at H
        have c_21 : (((rd_T67 l0_6 x_5).f0) == (IntKind.u64.wrap (x_4 + 1))) = false := beq_eq_false_iff_ne.mpr c_20
        have c_22 : (((rd_T67 l0_6 x_5).f0) != (IntKind.u64.wrap (x_4 + 1))) = true := bne_iff_ne.mpr c_20
        obtain rfl := Option.some.inj H
        have p_1 : 0 ≤ (x_5 : Int) := od_
        have q_1 : x_5 < (l0_6.length : Int) := od_
        obtain ⟨ad_1, A_5, c_19, e_1, hx_1, hx_2, hx_3, hx_4, hx_5, hl_1, hi_1⟩ := at_T67 HR_1.out x_5 p_1 q_1
        cases e_1
        replace hx_1 := hc_ HB hx_1
        replace hx_2 := hc_ HB hx_2
        replace hx_3 := hc_ HB hx_3
        replace hx_4 := hc_ HB hx_4
        replace hx_5 := hc_ HB hx_5
        have HR_3 := a_ hi_1
        have HC_5 := a_ hl_1
        clear hi_1 hl_1
        replace p_1 := eq_true p_1
        replace q_1 := eq_true q_1
        go_wp2_with (first | ((with_reducible refine gd_ 6 ?_); (try (refine gate_guard (by rfl) ?_; dsimp only)); refine bx_ 6 #[.int .u64 0, .int .u64 0, .int .u8 0, .string (⟨#[]⟩ : ByteArray), .slice none 0 0] 67 ?_; intro gb_2 hg w_6 hbox hb; have BK_2 := a_ (hbox); have GE_2 := a_ (bs_1 hg HB GE_1); replace HB := hB_ (bl_1 HB GE_1) hb; have NB_1 := nB_ hg BK_1; have NB_2 := nC_ hg BK_1; replace BK_1 := bB_ BK_1 hb; clear hb hbox hg; have hnb_2 := NB_2.out; have hnc_2 := NB_1.out; obtain ⟨_, _, _, _, _, _, _, _, _, _⟩ := c5_ BK_2) | ((with_reducible refine gk_ 37 ?_); refine gl_ (some 59) Try.func37 #[.agg #[.int .u64 ((rd_T67 l0_6 x_5).f0), .int .u64 ((rd_T67 l0_6 x_5).f1), .int .u8 ((rd_T67 l0_6 x_5).f2), .string ((rd_T67 l0_6 x_5).f3), .slice A_5 ((rd_T67 l0_6 x_5).f4).length c_19]] ?_; (with_reducible refine (wal_Check.calls k3 ((rd_T67 l0_6 x_5).f0) ((rd_T67 l0_6 x_5).f1) ((rd_T67 l0_6 x_5).f2) ((rd_T67 l0_6 x_5).f3) _ _ ((rd_T67 l0_6 x_5).f4) t_2 _ ?side1 ?side2 A_4.out).mono ?_); (case side1 => exact Kd.C_below HR_3.out (bl_2 HB GE_1 GE_2)); (case side2 => exact HC_5.out); rintro e w_7 ⟨rfl, hb⟩; refine ⟨_, rfl, ?_⟩; replace BK_1 := a_ (blk_below (g := gb_1) (o := .cells #[.int .u8 a0_0, .int .u64 a0_1, .int .u64 a0_2, .int .u64 a0_3, .int .u64 a0_4, .bool a0_5, .slice (some ad_1) l0_6.length c0_6, .int .u64 a0_7, .int .u64 a0_8, .slice A0_9 l0_9.length c0_9, .string a0_10] 37 (0, 0)) (bp_1 BK_1 NB_1) hb); replace BK_2 := a_ (blk_below (g := gb_2) (o := .cells #[.int .u64 ((rd_T67 l0_6 x_5).f0), .int .u64 ((rd_T67 l0_6 x_5).f1), .int .u8 ((rd_T67 l0_6 x_5).f2), .string ((rd_T67 l0_6 x_5).f3), .slice A_5 ((rd_T67 l0_6 x_5).f4).length c_19] 67 (0, 0)) (bp_0 BK_2) hb); replace HB := hB_ (bl_2 HB GE_1 GE_2) hb; (try clear hb); obtain ⟨_, _, _, _, _, _, _, _, _, _⟩ := c5_ BK_2))
        repeat (go_step3; try (go_wp2_with (first | ((with_reducible refine gd_ 6 ?_); (try (refine gate_guard (by rfl) ?_; dsimp only)); refine bx_ 6 #[.int .u64 0, .int .u64 0, .int .u8 0, .string (⟨#[]⟩ : ByteArray), .slice none 0 0] 67 ?_; intro gb_2 hg w_6 hbox hb; have BK_2 := a_ (hbox); have GE_2 := a_ (bs_1 hg HB GE_1); replace HB := hB_ (bl_1 HB GE_1) hb; have NB_1 := nB_ hg BK_1; have NB_2 := nC_ hg BK_1; replace BK_1 := bB_ BK_1 hb; clear hb hbox hg; have hnb_2 := NB_2.out; have hnc_2 := NB_1.out; obtain ⟨_, _, _, _, _, _, _, _, _, _⟩ := c5_ BK_2) | ((with_reducible refine gk_ 37 ?_); refine gl_ (some 59) Try.func37 #[.agg #[.int .u64 ((rd_T67 l0_6 x_5).f0), .int .u64 ((rd_T67 l0_6 x_5).f1), .int .u8 ((rd_T67 l0_6 x_5).f2), .string ((rd_T67 l0_6 x_5).f3), .slice A_5 ((rd_T67 l0_6 x_5).f4).length c_19]] ?_; (with_reducible refine (wal_Check.calls k3 ((rd_T67 l0_6 x_5).f0) ((rd_T67 l0_6 x_5).f1) ((rd_T67 l0_6 x_5).f2) ((rd_T67 l0_6 x_5).f3) _ _ ((rd_T67 l0_6 x_5).f4) t_2 _ ?side1 ?side2 A_4.out).mono ?_); (case side1 => exact Kd.C_below HR_3.out (bl_2 HB GE_1 GE_2)); (case side2 => exact HC_5.out); rintro e w_7 ⟨rfl, hb⟩; refine ⟨_, rfl, ?_⟩; replace BK_1 := a_ (blk_below (g := gb_1) (o := .cells #[.int .u8 a0_0, .int .u64 a0_1, .int .u64 a0_2, .int .u64 a0_3, .int .u64 a0_4, .bool a0_5, .slice (some ad_1) l0_6.length c0_6, .int .u64 a0_7, .int .u64 a0_8, .slice A0_9 l0_9.length c0_9, .string a0_10] 37 (0, 0)) (bp_1 BK_1 NB_1) hb); replace BK_2 := a_ (blk_below (g := gb_2) (o := .cells #[.int .u64 ((rd_T67 l0_6 x_5).f0), .int .u64 ((rd_T67 l0_6 x_5).f1), .int .u8 ((rd_T67 l0_6 x_5).f2), .string ((rd_T67 l0_6 x_5).f3), .slice A_5 ((rd_T67 l0_6 x_5).f4).length c_19] 67 (0, 0)) (bp_0 BK_2) hb); replace HB := hB_ (bl_2 HB GE_1 GE_2) hb; (try clear hb); obtain ⟨_, _, _, _, _, _, _, _, _, _⟩ := c5_ BK_2))))
        try dsimp only [Exit.noGoto]
        go_ret
        exact ⟨fz_, bl_2 HB GE_1 GE_2⟩
       rw [if_pos c_20] at H
       have c_21 : (((rd_T67 l0_6 x_5).f0) == (IntKind.u64.wrap (x_4 + 1))) = true := beq_iff_eq.mpr c_20
       have c_22 : (((rd_T67 l0_6 x_5).f0) != (IntKind.u64.wrap (x_4 + 1))) = false := bne_eq_false_iff_eq.mpr c_20
       clear c_20
       have H' := a_ H
       clear H
       have p_1 : 0 ≤ (x_5 : Int) := od_
       have q_1 : x_5 < (l0_6.length : Int) := od_
       obtain ⟨ad_1, A_5, c_19, e_1, hx_1, hx_2, hx_3, hx_4, hx_5, hl_1, hi_1⟩ := at_T67 HR_1.out x_5 p_1 q_1
       cases e_1
       replace hx_1 := hc_ HB hx_1
       replace hx_2 := hc_ HB hx_2
       replace hx_3 := hc_ HB hx_3
       replace hx_4 := hc_ HB hx_4
       replace hx_5 := hc_ HB hx_5
       have HR_3 := a_ hi_1
       have HC_5 := a_ hl_1
       clear hi_1 hl_1
       replace p_1 := eq_true p_1
       replace q_1 := eq_true q_1
       go_wp2_with (first | ((with_reducible refine gd_ 6 ?_); (try (refine gate_guard (by rfl) ?_; dsimp only)); refine bx_ 6 #[.int .u64 0, .int .u64 0, .int .u8 0, .string (⟨#[]⟩ : ByteArray), .slice none 0 0] 67 ?_; intro gb_2 hg w_8 hbox hb; have BK_2 := a_ (hbox); have GE_2 := a_ (bs_1 hg HB GE_1); replace HB := hB_ (bl_1 HB GE_1) hb; have NB_1 := nB_ hg BK_1; have NB_2 := nC_ hg BK_1; replace BK_1 := bB_ BK_1 hb; clear hb hbox hg; have hnb_3 := NB_2.out; have hnc_3 := NB_1.out; obtain ⟨_, _, _, _, _, _, _, _, _, _⟩ := c5_ BK_2) | ((with_reducible refine gk_ 37 ?_); refine gl_ (some 59) Try.func37 #[.agg #[.int .u64 ((rd_T67 l0_6 x_5).f0), .int .u64 ((rd_T67 l0_6 x_5).f1), .int .u8 ((rd_T67 l0_6 x_5).f2), .string ((rd_T67 l0_6 x_5).f3), .slice A_5 ((rd_T67 l0_6 x_5).f4).length c_19]] ?_; (with_reducible refine (wal_Check.calls k3 ((rd_T67 l0_6 x_5).f0) ((rd_T67 l0_6 x_5).f1) ((rd_T67 l0_6 x_5).f2) ((rd_T67 l0_6 x_5).f3) _ _ ((rd_T67 l0_6 x_5).f4) t_2 _ ?side1 ?side2 A_4.out).mono ?_); (case side1 => exact Kd.C_below HR_3.out (bl_2 HB GE_1 GE_2)); (case side2 => exact HC_5.out); rintro e w_9 ⟨rfl, hb⟩; refine ⟨_, rfl, ?_⟩; replace BK_1 := a_ (blk_below (g := gb_1) (o := .cells #[.int .u8 a0_0, .int .u64 a0_1, .int .u64 a0_2, .int .u64 a0_3, .int .u64 a0_4, .bool a0_5, .slice (some ad_1) l0_6.length c0_6, .int .u64 a0_7, .int .u64 a0_8, .slice A0_9 l0_9.length c0_9, .string a0_10] 37 (0, 0)) (bp_1 BK_1 NB_1) hb); replace BK_2 := a_ (blk_below (g := gb_2) (o := .cells #[.int .u64 ((rd_T67 l0_6 x_5).f0), .int .u64 ((rd_T67 l0_6 x_5).f1), .int .u8 ((rd_T67 l0_6 x_5).f2), .string ((rd_T67 l0_6 x_5).f3), .slice A_5 ((rd_T67 l0_6 x_5).f4).length c_19] 67 (0, 0)) (bp_0 BK_2) hb); replace HB := hB_ (bl_2 HB GE_1 GE_2) hb; (try clear hb); obtain ⟨_, _, _, _, _, _, _, _, _, _⟩ := c5_ BK_2))
       repeat (go_step3; try (go_wp2_with (first | ((with_reducible refine gd_ 6 ?_); (try (refine gate_guard (by rfl) ?_; dsimp only)); refine bx_ 6 #[.int .u64 0, .int .u64 0, .int .u8 0, .string (⟨#[]⟩ : ByteArray), .slice none 0 0] 67 ?_; intro gb_2 hg w_8 hbox hb; have BK_2 := a_ (hbox); have GE_2 := a_ (bs_1 hg HB GE_1); replace HB := hB_ (bl_1 HB GE_1) hb; have NB_1 := nB_ hg BK_1; have NB_2 := nC_ hg BK_1; replace BK_1 := bB_ BK_1 hb; clear hb hbox hg; have hnb_3 := NB_2.out; have hnc_3 := NB_1.out; obtain ⟨_, _, _, _, _, _, _, _, _, _⟩ := c5_ BK_2) | ((with_reducible refine gk_ 37 ?_); refine gl_ (some 59) Try.func37 #[.agg #[.int .u64 ((rd_T67 l0_6 x_5).f0), .int .u64 ((rd_T67 l0_6 x_5).f1), .int .u8 ((rd_T67 l0_6 x_5).f2), .string ((rd_T67 l0_6 x_5).f3), .slice A_5 ((rd_T67 l0_6 x_5).f4).length c_19]] ?_; (with_reducible refine (wal_Check.calls k3 ((rd_T67 l0_6 x_5).f0) ((rd_T67 l0_6 x_5).f1) ((rd_T67 l0_6 x_5).f2) ((rd_T67 l0_6 x_5).f3) _ _ ((rd_T67 l0_6 x_5).f4) t_2 _ ?side1 ?side2 A_4.out).mono ?_); (case side1 => exact Kd.C_below HR_3.out (bl_2 HB GE_1 GE_2)); (case side2 => exact HC_5.out); rintro e w_9 ⟨rfl, hb⟩; refine ⟨_, rfl, ?_⟩; replace BK_1 := a_ (blk_below (g := gb_1) (o := .cells #[.int .u8 a0_0, .int .u64 a0_1, .int .u64 a0_2, .int .u64 a0_3, .int .u64 a0_4, .bool a0_5, .slice (some ad_1) l0_6.length c0_6, .int .u64 a0_7, .int .u64 a0_8, .slice A0_9 l0_9.length c0_9, .string a0_10] 37 (0, 0)) (bp_1 BK_1 NB_1) hb); replace BK_2 := a_ (blk_below (g := gb_2) (o := .cells #[.int .u64 ((rd_T67 l0_6 x_5).f0), .int .u64 ((rd_T67 l0_6 x_5).f1), .int .u8 ((rd_T67 l0_6 x_5).f2), .string ((rd_T67 l0_6 x_5).f3), .slice A_5 ((rd_T67 l0_6 x_5).f4).length c_19] 67 (0, 0)) (bp_0 BK_2) hb); replace HB := hB_ (bl_2 HB GE_1 GE_2) hb; (try clear hb); obtain ⟨_, _, _, _, _, _, _, _, _, _⟩ := c5_ BK_2))))
       go_roundg k3
       case measure => have := HJ_1.out; have := HJ_2.out; have := HK_1.out; omega
       case rel => exact ⟨(x_3), (IntKind.u64.wrap (x_4 + 1)), (wrap64 (x_5 + 1)), fz_, fz_, fz_, H', ⟨by have := HJ_1.out; have := HJ_2.out; have := HK_1.out; omega⟩, ⟨bk_ BK_1⟩, ⟨bl_2 HB GE_1 GE_2⟩⟩

end Go.Proofs.Ytcdibodjkdoknaa.PM
