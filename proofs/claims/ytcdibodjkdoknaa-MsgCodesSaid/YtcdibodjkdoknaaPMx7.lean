-- By a program of this session.
import Derived.Test.YtcdibodjkdoknaaPMx0
import Derived.Test.YtcdibodjkdoknaaPMx6
namespace Go.Proofs.Ytcdibodjkdoknaa.PM
open Go.RowKit YtcdibodjkdoknaaW.PrintWords YtcdibodjkdoknaaW.PrintLast YtcdibodjkdoknaaW.PrintMore Sh Ytcdibodjkdoknaa.Op
attribute [local go_sem] max2_int min2_int max_two min_two max_three min_three max_four min_four
set_option linter.unusedVariables false
set_option maxHeartbeats 80000000
set_option maxRecDepth 100000
set_option linter.unusedSimpArgs false

def gafferref03_Members.l0 : Nat → List Int → List Int → Int → Int → Option (Bool)
 | 0, _, _, _, _ => none
 | k + 1, x0, x5, x6, x7 => if x7 < x6 then (if 0 ≤ x7 then (if x7 < (x5.length : Int) then (if (rd x5 x7) < 1 then (some false) else (if (rd x5 x7) > 7 then (some false) else (if x7 > 0 then (if 0 ≤ (wrap64 (x7 - 1)) then (if (wrap64 (x7 - 1)) < (x0.length : Int) then (if (rd x0 (wrap64 (x7 - 1))) ≥ (rd x5 x7) then (some false) else (gafferref03_Members.l0 k x0 x5 x6 (wrap64 (x7 + 1)))) else (none)) else (none)) else (gafferref03_Members.l0 k x0 x5 x6 (wrap64 (x7 + 1)))))) else (none)) else (none)) else (some (decide ((x0.length : Int) > 0)))
def gafferref03_Members.f (k : Nat) (l0 : List Int) : Option (Bool) := gafferref03_Members.l0 k l0 l0 (l0.length : Int) 0
theorem gafferref03_Members.mono_l : ∀ k, (∀ y0 y1 y2 y3, LeO (gafferref03_Members.l0 k y0 y1 y2 y3) (gafferref03_Members.l0 (k + 1) y0 y1 y2 y3))
 | 0 => fun _ _ _ _ r h => by simp [gafferref03_Members.l0] at h
 | k + 1 => by
  have ih0 := gafferref03_Members.mono_l k
  ·intro y0 y1 y2 y3
   unfold gafferref03_Members.l0
   repeat' with_reducible first | apply ih0 | apply LeO.refl | apply LeO.none | apply LeO.ite | refine LeO.bind ?_ (fun _ => ?_)
theorem gafferref03_Members.mono : ∀ a0 k, LeO (gafferref03_Members.f k a0) (gafferref03_Members.f (k + 1) a0) := by
 intro a0 k
 have ih0 := gafferref03_Members.mono_l k
 unfold gafferref03_Members.f
 repeat' with_reducible first | apply ih0 | apply LeO.refl | apply LeO.none | apply LeO.ite | refine LeO.bind ?_ (fun _ => ?_)
theorem gafferref03_Members.calls (k : Nat) (A0 : Option Addr) (c0 : Nat) (l0 : List Int) (r : Bool) (w : World) (hr0 : Kd.C (Kd.int .i64) w A0 l0.length l0) (hc0 : l0.length ≤ c0) (h : gafferref03_Members.f k l0 = some r) :
  Calls Try.prog 71 #[.slice A0 l0.length c0] w fun e w' => e = .returned (.bool r) ∧ Drawn0 w w' := by
 have HR_1 := a_ hr0
 have HC_1 := a_ hc0
 clear hr0 hc0
 have H := h
 unfold gafferref03_Members.f at H
 clear h
 have H' := a_ H
 clear H
 go_enter Try.func71, Try.ntmps71
 go_wp2
 go_loopg [7] k (fun kq v7 w' => ∃ (x7_1 : Int), v7 = .int .i64 x7_1 ∧ Aside0 (gafferref03_Members.l0 kq l0 l0 (l0.length : Int) x7_1 = some r) ∧ Aside0 (kq ≤ k) ∧ Drawn0 w w')
 case atStart => exact ⟨(0), fz_, H', ⟨Nat.le_refl _⟩, dr_⟩
 case round =>
  clear H'
  obtain ⟨x_1, rfl, HA, HK_1, ⟨m_1, rfl⟩⟩ := hrel
  cases gk with
  | zero => exact absurd HA.out (by simp [gafferref03_Members.l0])
  | succ k1 =>
   have H := HA.out
   clear HA
   simp only [gafferref03_Members.l0] at H
   by_cases c_1 : x_1 < (l0.length : Int)
   rotate_left
   ·rw [if_neg c_1] at H
    have c_2 : decide (x_1 < (l0.length : Int)) = false := decide_eq_false c_1
    clear c_1
    obtain rfl := Option.some.inj H
    go_wp2
    go_ret
    exact ⟨fz_, dr_⟩
   rw [if_pos c_1] at H
   have c_2 : decide (x_1 < (l0.length : Int)) = true := decide_eq_true c_1
   clear c_1
   by_cases c_3 : 0 ≤ x_1
   rotate_left
   ·rw [if_neg c_3] at H
    exact absurd H (by simp)
   rw [if_pos c_3] at H
   have c_4 : decide (0 ≤ x_1) = true := decide_eq_true c_3
   clear c_3
   by_cases c_5 : x_1 < (l0.length : Int)
   rotate_left
   ·rw [if_neg c_5] at H
    exact absurd H (by simp)
   rw [if_pos c_5] at H
   have c_6 : decide (x_1 < (l0.length : Int)) = true := decide_eq_true c_5
   clear c_5
   by_cases c_7 : (rd l0 x_1) < 1
   ·rw [if_pos c_7] at H
    have c_8 : decide ((rd l0 x_1) < 1) = true := decide_eq_true c_7
    clear c_7
    obtain rfl := Option.some.inj H
    have p_1 : 0 ≤ (x_1 : Int) := od_
    have q_1 : x_1 < (l0.length : Int) := od_
    obtain ⟨ad_1, e_1, hx_1⟩ := Kd.at_int HR_1.out x_1 p_1 q_1
    cases e_1
    replace p_1 := eq_true p_1
    replace q_1 := eq_true q_1
    go_wp2
    go_ret
    exact ⟨fz_, dr_⟩
   rw [if_neg c_7] at H
   have c_8 : decide ((rd l0 x_1) < 1) = false := decide_eq_false c_7
   clear c_7
   by_cases c_9 : (rd l0 x_1) > 7
   ·rw [if_pos c_9] at H
    have c_10 : decide (7 < (rd l0 x_1)) = true := decide_eq_true c_9
    clear c_9
    obtain rfl := Option.some.inj H
    have p_1 : 0 ≤ (x_1 : Int) := od_
    have q_1 : x_1 < (l0.length : Int) := od_
    obtain ⟨ad_1, e_1, hx_1⟩ := Kd.at_int HR_1.out x_1 p_1 q_1
    cases e_1
    replace p_1 := eq_true p_1
    replace q_1 := eq_true q_1
    go_wp2
    go_ret
    exact ⟨fz_, dr_⟩
   rw [if_neg c_9] at H
   have c_10 : decide (7 < (rd l0 x_1)) = false := decide_eq_false c_9
   clear c_9
   by_cases c_11 : x_1 > 0
   rotate_left
   ·rw [if_neg c_11] at H
    have c_12 : decide (0 < x_1) = false := decide_eq_false c_11
    clear c_11
    have H' := a_ H
    clear H
    have p_1 : 0 ≤ (x_1 : Int) := od_
    have q_1 : x_1 < (l0.length : Int) := od_
    obtain ⟨ad_1, e_1, hx_1⟩ := Kd.at_int HR_1.out x_1 p_1 q_1
    cases e_1
    replace p_1 := eq_true p_1
    replace q_1 := eq_true q_1
    go_wp2
    go_roundg k1
    case measure => have := HK_1.out; omega
    case rel => exact ⟨(wrap64 (x_1 + 1)), fz_, H', ⟨by have := HK_1.out; omega⟩, dr_⟩
   rw [if_pos c_11] at H
   have c_12 : decide (0 < x_1) = true := decide_eq_true c_11
   clear c_11
   obtain ⟨ji_1, hji_1⟩ : ∃ j_ : Int, (wrap64 (x_1 - 1)) = j_ := ⟨_, rfl⟩
   replace H : (if 0 ≤ (ji_1) then (if (ji_1) < (l0.length : Int) then (if (rd l0 (ji_1)) ≥ (rd l0 x_1) then (some false) else (gafferref03_Members.l0 k1 l0 l0 (l0.length : Int) (wrap64 (x_1 + 1)))) else (none)) else (none)) = some r := by first | (rw [hji_1] at H; exact H) | (simp only [hji_1] at H ⊢; exact H)
   have hji_2 : (IntKind.i64.wrap (x_1 - 1)) = ji_1 := (i64_w _).trans hji_1
   by_cases c_13 : 0 ≤ (ji_1)
   rotate_left
   ·rw [if_neg c_13] at H
    exact absurd H (by simp)
   rw [if_pos c_13] at H
   have c_14 : decide (0 ≤ (ji_1)) = true := decide_eq_true c_13
   clear c_13
   by_cases c_15 : (ji_1) < (l0.length : Int)
   rotate_left
   ·rw [if_neg c_15] at H
    exact absurd H (by simp)
   rw [if_pos c_15] at H
   have c_16 : decide ((ji_1) < (l0.length : Int)) = true := decide_eq_true c_15
   clear c_15
   by_cases c_17 : (rd l0 (ji_1)) ≥ (rd l0 x_1)
   ·rw [if_pos c_17] at H
    have c_18 : decide ((rd l0 x_1) ≤ (rd l0 (ji_1))) = true := decide_eq_true c_17
    clear c_17
    obtain rfl := Option.some.inj H
    have p_1 : 0 ≤ (x_1 : Int) := od_
    have q_1 : x_1 < (l0.length : Int) := od_
    obtain ⟨ad_1, e_1, hx_1⟩ := Kd.at_int HR_1.out x_1 p_1 q_1
    cases e_1
    replace p_1 := eq_true p_1
    replace q_1 := eq_true q_1
    have p_2 : 0 ≤ ((ji_1) : Int) := od_
    have q_2 : (ji_1) < (l0.length : Int) := od_
    obtain ⟨ad_2, e_2, hx_2⟩ := Kd.at_int HR_1.out (ji_1) p_2 q_2
    obtain rfl : ad_1 = ad_2 := (by injection e_2)
    replace p_2 := eq_true p_2
    replace q_2 := eq_true q_2
    go_wp2
    go_ret
    exact ⟨by first | rfl | (simp; done) | (simp only [← hji_1] <;> (first | rfl | simp)) | (simp [*]; done), dr_⟩
   rw [if_neg c_17] at H
   have c_18 : decide ((rd l0 x_1) ≤ (rd l0 (ji_1))) = false := decide_eq_false c_17
   clear c_17
   have H' := a_ H
   clear H
   have p_1 : 0 ≤ (x_1 : Int) := od_
   have q_1 : x_1 < (l0.length : Int) := od_
   obtain ⟨ad_1, e_1, hx_1⟩ := Kd.at_int HR_1.out x_1 p_1 q_1
   cases e_1
   replace p_1 := eq_true p_1
   replace q_1 := eq_true q_1
   have p_2 : 0 ≤ ((ji_1) : Int) := od_
   have q_2 : (ji_1) < (l0.length : Int) := od_
   obtain ⟨ad_2, e_2, hx_2⟩ := Kd.at_int HR_1.out (ji_1) p_2 q_2
   obtain rfl : ad_1 = ad_2 := (by injection e_2)
   replace p_2 := eq_true p_2
   replace q_2 := eq_true q_2
   go_wp2
   go_roundg k1
   case measure => have := HK_1.out; omega
   case rel => exact ⟨(wrap64 (x_1 + 1)), fz_, H', ⟨by have := HK_1.out; omega⟩, dr_⟩

def gafferref05_Check.f (k : Nat) (a0_0 : Int) (a0_1 : Int) (l0_2 : List Int) (a0_3 : ByteArray) : Option (Int) := (gafferref05_nothing.f a0_0 a0_1 l0_2 a0_3).bind fun t149 => (if t149 = true then (some 0) else ((gafferref03_Members.f k l0_2).bind fun t150 => (if t150 = true then (if (a0_3.size : Int) ≤ 64512 then (some 0) else (some 4)) else (some 4))))
theorem gafferref05_Check.mono : ∀ a0 a1 a2 a3 k, LeO (gafferref05_Check.f k a0 a1 a2 a3) (gafferref05_Check.f (k + 1) a0 a1 a2 a3) := by
 intro a0 a1 a2 a3 k
 unfold gafferref05_Check.f
 repeat' with_reducible first | apply gafferref03_Members.mono | apply LeO.refl | apply LeO.none | apply LeO.ite | refine LeO.bind ?_ (fun _ => ?_)
theorem gafferref05_Check.calls (k : Nat) (a0_0 : Int) (a0_1 : Int) (A0_2 : Option Addr) (c0_2 : Nat) (l0_2 : List Int) (a0_3 : ByteArray) (r : Int) (w : World) (hr0_2 : Kd.C (Kd.int .i64) w A0_2 l0_2.length l0_2) (hc0_2 : l0_2.length ≤ c0_2) (h : gafferref05_Check.f k a0_0 a0_1 l0_2 a0_3 = some r) :
  Calls Try.prog 38 #[.agg #[.int .u64 a0_0, .int .u64 a0_1, .slice A0_2 l0_2.length c0_2, .string a0_3]] w fun e w' => e = .returned (.int .i64 r) ∧ Below w.heap.size w w' := by
 have hu_1 := Try.underlying35
 have HR_1 := a_ hr0_2
 have HC_1 := a_ hc0_2
 clear hr0_2 hc0_2
 have HB := a_ (Below.refl w.heap.size w)
 have H := h
 unfold gafferref05_Check.f at H
 clear h
 obtain ⟨t_1, A_1, H⟩ := Option.bind_eq_some_iff.mp H
 try dsimp only at H
 have A_2 := a_ A_1
 clear A_1
 by_cases c_1 : t_1 = true
 focus
  subst c_1
  rw [if_pos rfl] at H
  obtain rfl := Option.some.inj H
  have L0_ := trivial
 rotate_left
 focus
  replace c_1 := Bool.eq_false_iff.mpr c_1
  subst c_1
  rw [if_neg (show ¬ (false = true) by decide)] at H
  obtain ⟨t_2, A_3, H⟩ := Option.bind_eq_some_iff.mp H
  try dsimp only at H
  have A_4 := a_ A_3
  clear A_3
  by_cases c_2 : t_2 = true
  rotate_left
  focus
   replace c_2 := Bool.eq_false_iff.mpr c_2
   subst c_2
   rw [if_neg (show ¬ (false = true) by decide)] at H
   obtain rfl := Option.some.inj H
   have L1_ := trivial
  rotate_left
  focus
   subst c_2
   rw [if_pos rfl] at H
   by_cases c_3 : (a0_3.size : Int) ≤ 64512
   focus
    rw [if_pos c_3] at H
    have c_4 : decide ((a0_3.size : Int) ≤ 64512) = true := decide_eq_true c_3
    have c_5 : decide (a0_3.size ≤ 64512) = true := decide_eq_true (by omega)
    clear c_3
    obtain rfl := Option.some.inj H
    have L1_ := trivial
   rotate_left
   rw [if_neg c_3] at H
   have c_4 : decide ((a0_3.size : Int) ≤ 64512) = false := decide_eq_false c_3
   have c_5 : decide (a0_3.size ≤ 64512) = false := decide_eq_false (by omega)
   clear c_3
   obtain rfl := Option.some.inj H
   have L1_ := trivial
 all_goals
  go_enter Try.func38, Try.ntmps38
  first
  | (have _ := L0_
     go_wp2_with (first | ((with_reducible refine gd_ 1 ?_); (try (refine gate_guard (by rfl) ?_; dsimp only)); refine bx_ 1 #[.int .u64 a0_0, .int .u64 a0_1, .slice A0_2 l0_2.length c0_2, .string a0_3] 35 ?_; intro gb_1 hg w_1 hbox hb; have BK_1 := a_ (hbox); have GE_1 := a_ (bs_0 hg HB); replace HB := hB_ (bl_ HB) hb; clear hb hbox hg; obtain ⟨_, _, _, _, _, _, _, _⟩ := c4_ BK_1) | ((with_reducible refine gk_ 70 ?_); refine gl_ (some 4) Try.func70 #[.agg #[.int .u64 a0_0, .int .u64 a0_1, .slice A0_2 l0_2.length c0_2, .string a0_3]] ?_; (with_reducible refine (gafferref05_nothing.calls a0_0 a0_1 _ _ l0_2 a0_3 _ _ ?side1 ?side2 A_2.out).mono ?_); (case side1 => exact cl_ (Kd.C_below HR_1.out HB.out)); (case side2 => exact HC_1.out); rintro e w_2 ⟨rfl, hb⟩; refine ⟨_, rfl, ?_⟩; replace BK_1 := bB_ BK_1 hb; replace HB := hB_ (bl_1 HB GE_1) hb; (try clear hb)))
     go_ret
     exact ⟨fz_, bl_1 HB GE_1⟩)
  | (have _ := L1_
     go_wp2_with (first | ((with_reducible refine gd_ 1 ?_); (try (refine gate_guard (by rfl) ?_; dsimp only)); refine bx_ 1 #[.int .u64 a0_0, .int .u64 a0_1, .slice A0_2 l0_2.length c0_2, .string a0_3] 35 ?_; intro gb_1 hg w_1 hbox hb; have BK_1 := a_ (hbox); have GE_1 := a_ (bs_0 hg HB); replace HB := hB_ (bl_ HB) hb; clear hb hbox hg; obtain ⟨_, _, _, _, _, _, _, _⟩ := c4_ BK_1) | ((with_reducible refine gk_ 70 ?_); refine gl_ (some 4) Try.func70 #[.agg #[.int .u64 a0_0, .int .u64 a0_1, .slice A0_2 l0_2.length c0_2, .string a0_3]] ?_; (with_reducible refine (gafferref05_nothing.calls a0_0 a0_1 _ _ l0_2 a0_3 _ _ ?side1 ?side2 A_2.out).mono ?_); (case side1 => exact cl_ (Kd.C_below HR_1.out HB.out)); (case side2 => exact HC_1.out); rintro e w_2 ⟨rfl, hb⟩; refine ⟨_, rfl, ?_⟩; replace BK_1 := bB_ BK_1 hb; replace HB := hB_ (bl_1 HB GE_1) hb; (try clear hb); obtain ⟨_, _, _, _, _, _, _, _⟩ := c4_ BK_1) | (go_at_call 71; (with_reducible refine (gafferref03_Members.calls k _ _ l0_2 _ _ ?side1 ?side2 A_4.out).mono ?_); (case side1 => exact cl_ (Kd.C_below HR_1.out HB.out)); (case side2 => exact HC_1.out); rintro e w' ⟨rfl, ⟨nd, rfl⟩⟩))
     go_ret
     exact ⟨fz_, bl_1 HB GE_1⟩)

def gafferref03_Check.j0 : Nat → Bool → Int → Int → Int → ByteArray → List Int → Option (Int)
 | 0, _, _, _, _, _, _ => none
 | k + 1, x3, x152000, x152001, x152002, x152003, x152004 => if x152002 = 3 then (if x3 = true then ((gafferref03_Members.f k x152004).bind fun t152 => (if t152 = true then (some 0) else (some 4))) else (some 4)) else (if x3 = true then (if ((x152004.length : Int) = 0) then (some 0) else (some 4)) else (some 4))
def gafferref03_Check.f (k : Nat) (a0_0 : Int) (a0_1 : Int) (a0_2 : Int) (a0_3 : ByteArray) (l0_4 : List Int) : Option (Int) := if a0_0 > 0 then (if a0_2 > 0 then (if a0_2 < 4 then (if a0_2 = 2 then (gafferref03_Check.j0 k (decide ((a0_3.size : Int) ≤ 4096)) a0_0 a0_1 a0_2 a0_3 l0_4) else (if a0_3.toList = ([] : List UInt8) then (gafferref03_Check.j0 k (decide ((a0_3.size : Int) ≤ 4096)) a0_0 a0_1 a0_2 a0_3 l0_4) else (gafferref03_Check.j0 k false a0_0 a0_1 a0_2 a0_3 l0_4))) else (gafferref03_Check.j0 k false a0_0 a0_1 a0_2 a0_3 l0_4)) else (gafferref03_Check.j0 k false a0_0 a0_1 a0_2 a0_3 l0_4)) else (gafferref03_Check.j0 k false a0_0 a0_1 a0_2 a0_3 l0_4)
theorem gafferref03_Check.mono_l : ∀ k, (∀ y0 y1 y2 y3 y4 y5, LeO (gafferref03_Check.j0 k y0 y1 y2 y3 y4 y5) (gafferref03_Check.j0 (k + 1) y0 y1 y2 y3 y4 y5))
 | 0 => fun _ _ _ _ _ _ r h => by simp [gafferref03_Check.j0] at h
 | k + 1 => by
  have ih0 := gafferref03_Check.mono_l k
  ·intro y0 y1 y2 y3 y4 y5
   unfold gafferref03_Check.j0
   repeat' with_reducible first | apply ih0 | apply gafferref03_Members.mono | apply LeO.refl | apply LeO.none | apply LeO.ite | refine LeO.bind ?_ (fun _ => ?_)
theorem gafferref03_Check.mono : ∀ a0 a1 a2 a3 a4 k, LeO (gafferref03_Check.f k a0 a1 a2 a3 a4) (gafferref03_Check.f (k + 1) a0 a1 a2 a3 a4) := by
 intro a0 a1 a2 a3 a4 k
 have ih0 := gafferref03_Check.mono_l k
 unfold gafferref03_Check.f
 repeat' with_reducible first | apply ih0 | apply gafferref03_Members.mono | apply LeO.refl | apply LeO.none | apply LeO.ite | refine LeO.bind ?_ (fun _ => ?_)
theorem gafferref03_Check.calls (k : Nat) (a0_0 : Int) (a0_1 : Int) (a0_2 : Int) (a0_3 : ByteArray) (A0_4 : Option Addr) (c0_4 : Nat) (l0_4 : List Int) (r : Int) (w : World) (hr0_4 : Kd.C (Kd.int .i64) w A0_4 l0_4.length l0_4) (hc0_4 : l0_4.length ≤ c0_4) (h : gafferref03_Check.f k a0_0 a0_1 a0_2 a0_3 l0_4 = some r) :
  Calls Try.prog 39 #[.agg #[.int .u64 a0_0, .int .u64 a0_1, .int .u8 a0_2, .string a0_3, .slice A0_4 l0_4.length c0_4]] w fun e w' => e = .returned (.int .i64 r) ∧ Below w.heap.size w w' := by
 have hu_1 := Try.underlying67
 have HR_1 := a_ hr0_4
 have HC_1 := a_ hc0_4
 clear hr0_4 hc0_4
 have HB := a_ (Below.refl w.heap.size w)
 have H := h
 unfold gafferref03_Check.f at H
 clear h
 have HC_2 := a_ H
 clear H
 go_enter Try.func39, Try.ntmps39
 go_upto_region 1 with (first | ((with_reducible refine gd_ 1 ?_); (try (refine gate_guard (by rfl) ?_; dsimp only)); refine bx_ 1 #[.int .u64 a0_0, .int .u64 a0_1, .int .u8 a0_2, .string a0_3, .slice A0_4 l0_4.length c0_4] 67 ?_; intro gb_1 hg w_1 hbox hb; have BK_1 := a_ (hbox); have GE_1 := a_ (bs_0 hg HB); replace HB := hB_ (bl_ HB) hb; clear hb hbox hg))
 (try simp only [Act.put, List.setIfInBounds_toArray, List.set_cons_zero, List.set_cons_succ])
 go_cut [3] (fun v3 wc => ∃ (kq : Nat) (x3_1 : Bool), v3 = .bool x3_1 ∧ Aside0 (gafferref03_Check.j0 kq x3_1 a0_0 a0_1 a0_2 a0_3 l0_4 = some r) ∧ Aside0 (kq ≤ k) ∧ Aside0 (wc.heap[gb_1]? = some (.cells #[.int .u64 a0_0, .int .u64 a0_1, .int .u8 a0_2, .string a0_3, (.slice A0_4 l0_4.length c0_4)] 67 (0, 0))) ∧ Aside0 (Below w.heap.size w wc))
 case first =>
  have H := HC_2.out
  clear HC_2
  by_cases c_1 : a0_0 > 0
  rotate_left
  focus
   rw [if_neg c_1] at H
   have c_2 : decide (0 < a0_0) = false := decide_eq_false c_1
   clear c_1
   (first | rw [c_2] | (simp only [i64_w, i32_w]; rw [c_2]) | skip)
   have H' := a_ H
   clear H
   obtain ⟨_, _, _, _, _, _, _, _, _, _⟩ := c5_ BK_1
   have L0_ := trivial
  rotate_left
  focus
   rw [if_pos c_1] at H
   have c_2 : decide (0 < a0_0) = true := decide_eq_true c_1
   clear c_1
   (first | rw [c_2] | (simp only [i64_w, i32_w]; rw [c_2]) | skip)
   by_cases c_3 : a0_2 > 0
   rotate_left
   focus
    rw [if_neg c_3] at H
    have c_4 : decide (0 < a0_2) = false := decide_eq_false c_3
    clear c_3
    have H' := a_ H
    clear H
    obtain ⟨_, _, _, _, _, _, _, _, _, _⟩ := c5_ BK_1
    have L0_ := trivial
   rotate_left
   focus
    rw [if_pos c_3] at H
    have c_4 : decide (0 < a0_2) = true := decide_eq_true c_3
    clear c_3
    by_cases c_5 : a0_2 < 4
    rotate_left
    focus
     rw [if_neg c_5] at H
     have c_6 : decide (a0_2 < 4) = false := decide_eq_false c_5
     clear c_5
     have H' := a_ H
     clear H
     obtain ⟨_, _, _, _, _, _, _, _, _, _⟩ := c5_ BK_1
     have L0_ := trivial
    rotate_left
    focus
     rw [if_pos c_5] at H
     have c_6 : decide (a0_2 < 4) = true := decide_eq_true c_5
     clear c_5
     by_cases c_7 : a0_2 = 2
     focus
      rw [if_pos c_7] at H
      have c_8 : (a0_2 == 2) = true := beq_iff_eq.mpr c_7
      have c_9 : (a0_2 != 2) = false := bne_eq_false_iff_eq.mpr c_7
      clear c_7
      have H' := a_ H
      clear H
      obtain ⟨_, _, _, _, _, _, _, _, _, _⟩ := c5_ BK_1
      have L1_ := trivial
     rotate_left
     focus
      rw [if_neg c_7] at H
      have c_8 : (a0_2 == 2) = false := beq_eq_false_iff_ne.mpr c_7
      have c_9 : (a0_2 != 2) = true := bne_iff_ne.mpr c_7
      by_cases c_10 : a0_3.toList = ([] : List UInt8)
      rotate_left
      focus
       rw [if_neg c_10] at H
       have c_11 : (a0_3.toList == ([] : List UInt8)) = false := beq_eq_false_iff_ne.mpr c_10
       have c_12 : (a0_3.toList != ([] : List UInt8)) = true := bne_iff_ne.mpr c_10
       have H' := a_ H
       clear H
       obtain ⟨_, _, _, _, _, _, _, _, _, _⟩ := c5_ BK_1
       have L0_ := trivial
      rotate_left
      rw [if_pos c_10] at H
      have c_11 : (a0_3.toList == ([] : List UInt8)) = true := beq_iff_eq.mpr c_10
      have c_12 : (a0_3.toList != ([] : List UInt8)) = false := bne_eq_false_iff_eq.mpr c_10
      clear c_10
      have H' := a_ H
      clear H
      obtain ⟨_, _, _, _, _, _, _, _, _, _⟩ := c5_ BK_1
      have L1_ := trivial
  all_goals
   go_wp2
   go_meet
   first
   | (have _ := L0_
      case rel => exact ⟨_, (false), fz_, H', ⟨by first | omega | exact Nat.le_refl _⟩, ⟨bk_ BK_1⟩, ⟨bl_1 HB GE_1⟩⟩)
   | (have _ := L1_
      case rel => exact ⟨_, (decide ((a0_3.size : Int) ≤ 4096)), fz_, H', ⟨by first | omega | exact Nat.le_refl _⟩, ⟨bk_ BK_1⟩, ⟨bl_1 HB GE_1⟩⟩)
 case rest =>
  clear HC_2
  try clear p2
  try clear c3
  try clear c_1
  try clear c4b0
  try clear c5
  try clear c5b0
  try clear c6
  try clear c6b0
  try clear c7
  try clear c7b0
  try clear c7b1
  try clear c9
  try clear c9b0
  try clear c9b1
  obtain ⟨kq, x_1, rfl, HA, HJ_1, BK_1, HB⟩ := hcut
  cases kq with
  | zero => exact absurd HA.out (by simp [gafferref03_Check.j0])
  | succ kj1 =>
   have H := HA.out
   clear HA
   simp only [gafferref03_Check.j0] at H
   by_cases c_2 : a0_2 = 3
   rotate_left
   ·rw [if_neg c_2] at H
    have c_3 : (a0_2 == 3) = false := beq_eq_false_iff_ne.mpr c_2
    have c_4 : (a0_2 != 3) = true := bne_iff_ne.mpr c_2
    by_cases c_5 : x_1 = true
    rotate_left
    ·replace c_5 := Bool.eq_false_iff.mpr c_5
     subst c_5
     rw [if_neg (show ¬ (false = true) by decide)] at H
     obtain rfl := Option.some.inj H
     obtain ⟨_, _, _, _, _, _, _, _, _, _⟩ := c5_ BK_1
     go_wp2
     go_ret
     exact ⟨fz_, bl_1 HB GE_1⟩
    subst c_5
    rw [if_pos rfl] at H
    by_cases c_6 : ((l0_4.length : Int) = 0)
    ·rw [if_pos c_6] at H
     have c_7 : ((l0_4.length : Int) == 0) = true := beq_iff_eq.mpr c_6
     have c_8 : ((l0_4.length : Int) != 0) = false := bne_eq_false_iff_eq.mpr c_6
     clear c_6
     obtain rfl := Option.some.inj H
     obtain ⟨_, _, _, _, _, _, _, _, _, _⟩ := c5_ BK_1
     go_wp2
     go_ret
     exact ⟨fz_, bl_1 HB GE_1⟩
    rw [if_neg c_6] at H
    have c_7 : ((l0_4.length : Int) == 0) = false := beq_eq_false_iff_ne.mpr c_6
    have c_8 : ((l0_4.length : Int) != 0) = true := bne_iff_ne.mpr c_6
    have c_9 : ¬ (l0_4 = []) := fun h_ => c_6 (by rw [h_]; rfl)
    obtain rfl := Option.some.inj H
    obtain ⟨_, _, _, _, _, _, _, _, _, _⟩ := c5_ BK_1
    go_wp2
    go_ret
    exact ⟨fz_, bl_1 HB GE_1⟩
   rw [if_pos c_2] at H
   have c_3 : (a0_2 == 3) = true := beq_iff_eq.mpr c_2
   have c_4 : (a0_2 != 3) = false := bne_eq_false_iff_eq.mpr c_2
   clear c_2
   by_cases c_10 : x_1 = true
   rotate_left
   ·replace c_10 := Bool.eq_false_iff.mpr c_10
    subst c_10
    rw [if_neg (show ¬ (false = true) by decide)] at H
    obtain rfl := Option.some.inj H
    obtain ⟨_, _, _, _, _, _, _, _, _, _⟩ := c5_ BK_1
    go_wp2
    go_ret
    exact ⟨fz_, bl_1 HB GE_1⟩
   subst c_10
   rw [if_pos rfl] at H
   obtain ⟨t_1, A_1, H⟩ := Option.bind_eq_some_iff.mp H
   try dsimp only at H
   have A_2 := a_ A_1
   clear A_1
   by_cases c_11 : t_1 = true
   ·subst c_11
    rw [if_pos rfl] at H
    obtain rfl := Option.some.inj H
    obtain ⟨_, _, _, _, _, _, _, _, _, _⟩ := c5_ BK_1
    go_wp2_with (first | (go_at_call 71; (with_reducible refine (gafferref03_Members.calls kj1 _ _ l0_4 true _ ?side1 ?side2 A_2.out).mono ?_); (case side1 => exact cl_ (Kd.C_below HR_1.out HB.out)); (case side2 => exact HC_1.out); rintro e w' ⟨rfl, ⟨nd, rfl⟩⟩))
    go_ret
    exact ⟨fz_, bl_1 HB GE_1⟩
   replace c_11 := Bool.eq_false_iff.mpr c_11
   subst c_11
   rw [if_neg (show ¬ (false = true) by decide)] at H
   obtain rfl := Option.some.inj H
   obtain ⟨_, _, _, _, _, _, _, _, _, _⟩ := c5_ BK_1
   go_wp2_with (first | (go_at_call 71; (with_reducible refine (gafferref03_Members.calls kj1 _ _ l0_4 false _ ?side1 ?side2 A_2.out).mono ?_); (case side1 => exact cl_ (Kd.C_below HR_1.out HB.out)); (case side2 => exact HC_1.out); rintro e w' ⟨rfl, ⟨nd, rfl⟩⟩))
   go_ret
   exact ⟨fz_, bl_1 HB GE_1⟩

end Go.Proofs.Ytcdibodjkdoknaa.PM
