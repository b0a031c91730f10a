-- By a program of this session.
import Derived.Test.YtpigjmjbfpipnaaPFx0
namespace Go.Proofs.Ytpigjmjbfpipnaa.PF
open Go.RowKit YtpigjmjbfpipnaaW.PrintWords YtpigjmjbfpipnaaW.PrintLast YtpigjmjbfpipnaaW.PrintMore Sh Ytpigjmjbfpipnaa.Op
attribute [local go_sem] max2_int min2_int max_two min_two max_three min_three max_four min_four
set_option linter.unusedVariables false
set_option maxHeartbeats 80000000
set_option maxRecDepth 100000
set_option linter.unusedSimpArgs false
def gafferref05_nothing.f (a0_0 : Int) (a0_1 : Int) (l0_2 : List Int) (a0_3 : ByteArray) : Option (Bool) := if a0_0 = 0 then (if a0_1 = 0 then (if (l0_2.length : Int) = 0 then (some (a0_3.toList == ([] : List UInt8))) else (some false)) else (some false)) else (some false)
theorem gafferref05_nothing.calls (a0_0 : Int) (a0_1 : Int) (A0_2 : Option Addr) (c0_2 : Nat) (l0_2 : List Int) (a0_3 : ByteArray) (r : Bool) (w : World) (hr0_2 : Kd.C (Kd.int .i64) w A0_2 l0_2.length l0_2) (hc0_2 : l0_2.length ≤ c0_2) (h : gafferref05_nothing.f a0_0 a0_1 l0_2 a0_3 = some r) :
  Calls Try.prog 57 #[.agg #[.int .u64 a0_0, .int .u64 a0_1, .slice A0_2 l0_2.length c0_2, .string a0_3]] w fun e w' => e = .returned (.bool r) ∧ Below w.heap.size w w' := by
 have hu_1 := Try.underlying48
 have HR_1 := a_ hr0_2
 have HC_1 := a_ hc0_2
 clear hr0_2 hc0_2
 have HB := a_ (Below.refl w.heap.size w)
 have H := h
 unfold gafferref05_nothing.f at H
 clear h
 by_cases c_1 : a0_0 = 0
 rotate_left
 focus
  rw [if_neg c_1] at H
  obtain ⟨c_2, c_3⟩ := bn_ c_1
  obtain rfl := Option.some.inj H
 rotate_left
 focus
  rw [if_pos c_1] at H
  obtain ⟨c_2, c_3⟩ := be_ c_1
  clear c_1
  by_cases c_4 : a0_1 = 0
  rotate_left
  focus
   rw [if_neg c_4] at H
   obtain ⟨c_5, c_6⟩ := bn_ c_4
   obtain rfl := Option.some.inj H
  rotate_left
  focus
   rw [if_pos c_4] at H
   obtain ⟨c_5, c_6⟩ := be_ c_4
   clear c_4
   by_cases c_7 : (l0_2.length : Int) = 0
   focus
    rw [if_pos c_7] at H
    obtain ⟨c_8, c_9⟩ := be_ c_7
    clear c_7
    obtain rfl := Option.some.inj H
   rotate_left
   rw [if_neg c_7] at H
   obtain ⟨c_8, c_9⟩ := bn_ c_7
   have c_10 : ¬ (l0_2 = []) := fun h_ => c_7 (by rw [h_]; rfl)
   obtain rfl := Option.some.inj H
 all_goals
  go_enter Try.func57, Try.ntmps57
  go_wp2_with ((with_reducible refine gd_ 1 ?_); (try (refine gate_guard (by rfl) ?_; dsimp only)); refine bz_ 1 #[.int .u64 a0_0, .int .u64 a0_1, .slice A0_2 l0_2.length c0_2, .string a0_3] 48 ?_; intro gb_1 hg w_1 BK_1 hb; have GE_1 := a_ (bs_0 hg HB); replace HB := hB_ (bl_ HB) hb; clear hb hg; obtain ⟨_, _, _, _, _, _, _, _⟩ := c4_ BK_1)
  go_ret
  exact ⟨fz_, bl_1 HB GE_1⟩

def gafferref03_Members.l0 : Nat → List Int → List Int → Int → Int → Option (Bool)
 | 0, _, _, _, _ => none
 | k + 1, x0, x5, x6, x7 => if x7 < x6 then (if 0 ≤ x7 then (if x7 < (x5.length : Int) then (if (rd x5 x7) < 1 then (some false) else (if (rd x5 x7) > 7 then (some false) else (if x7 > 0 then (if 0 ≤ (wrap64 (x7 - 1)) then (if (wrap64 (x7 - 1)) < (x0.length : Int) then (if (rd x0 (wrap64 (x7 - 1))) ≥ (rd x5 x7) then (some false) else (gafferref03_Members.l0 k x0 x5 x6 (wrap64 (x7 + 1)))) else (none)) else (none)) else (gafferref03_Members.l0 k x0 x5 x6 (wrap64 (x7 + 1)))))) else (none)) else (none)) else (some (decide ((x0.length : Int) > 0)))
def gafferref03_Members.f (k : Nat) (l0 : List Int) : Option (Bool) := gafferref03_Members.l0 k l0 l0 (l0.length : Int) 0
theorem gafferref03_Members.mono_l : ∀ k, (∀ y0 y1 y2 y3, LeO (gafferref03_Members.l0 k y0 y1 y2 y3) (gafferref03_Members.l0 (k + 1) y0 y1 y2 y3))
 | 0 => fun _ _ _ _ r h => by simp [gafferref03_Members.l0] at h
 | k + 1 => by
  have ih0 := gafferref03_Members.mono_l k
  ·intro y0 y1 y2 y3
   unfold gafferref03_Members.l0
   repeat' with_reducible first | apply ih0 | apply LeO.refl | apply LeO.none | apply LeO.ite | refine LeO.bind ?_ (fun _ => ?_)
theorem gafferref03_Members.mono : ∀ a0 k, LeO (gafferref03_Members.f k a0) (gafferref03_Members.f (k + 1) a0) := by
 intro a0 k
 have ih0 := gafferref03_Members.mono_l k
 unfold gafferref03_Members.f
 repeat' with_reducible first | apply ih0 | apply LeO.refl | apply LeO.none | apply LeO.ite | refine LeO.bind ?_ (fun _ => ?_)
theorem gafferref03_Members.calls (k : Nat) (A0 : Option Addr) (c0 : Nat) (l0 : List Int) (r : Bool) (w : World) (hr0 : Kd.C (Kd.int .i64) w A0 l0.length l0) (hc0 : l0.length ≤ c0) (h : gafferref03_Members.f k l0 = some r) :
  Calls Try.prog 58 #[.slice A0 l0.length c0] w fun e w' => e = .returned (.bool r) ∧ Drawn0 w w' := by
 have HR_1 := a_ hr0
 have HC_1 := a_ hc0
 clear hr0 hc0
 have H := h
 unfold gafferref03_Members.f at H
 clear h
 have H' := a_ H
 clear H
 go_enter Try.func58, Try.ntmps58
 go_wp2
 go_loopg [7] k (fun kq v7 w' => ∃ (x7_1 : Int), v7 = .int .i64 x7_1 ∧ Aside0 (gafferref03_Members.l0 kq l0 l0 (l0.length : Int) x7_1 = some r) ∧ Aside0 (kq ≤ k) ∧ Drawn0 w w')
 case atStart => exact ⟨(0), fz_, H', ⟨Nat.le_refl _⟩, dr_⟩
 case round =>
  clear H'
  obtain ⟨x_1, rfl, HA, HK_1, ⟨m_1, rfl⟩⟩ := hrel
  cases gk with
  | zero => exact absurd HA.out (by simp [gafferref03_Members.l0])
  | succ k1 =>
   have H := HA.out
   clear HA
   simp only [gafferref03_Members.l0] at H
   by_cases c_1 : x_1 < (l0.length : Int)
   rotate_left
   ·rw [if_neg c_1] at H
    have c_2 : decide (x_1 < (l0.length : Int)) = false := decide_eq_false c_1
    clear c_1
    obtain rfl := Option.some.inj H
    go_wp2
    go_ret
    exact ⟨fz_, dr_⟩
   rw [if_pos c_1] at H
   have c_2 : decide (x_1 < (l0.length : Int)) = true := decide_eq_true c_1
   clear c_1
   replace H := ip_ H
   obtain ⟨-, c_4, H⟩ := H
   replace H := ip_ H
   obtain ⟨-, c_6, H⟩ := H
   by_cases c_7 : (rd l0 x_1) < 1
   ·rw [if_pos c_7] at H
    have c_8 : decide ((rd l0 x_1) < 1) = true := decide_eq_true c_7
    clear c_7
    obtain rfl := Option.some.inj H
    have p_1 : 0 ≤ (x_1 : Int) := od_
    have q_1 : x_1 < (l0.length : Int) := od_
    obtain ⟨ad_1, e_1, hx_1⟩ := Kd.at_int HR_1.out x_1 p_1 q_1
    cases e_1
    replace p_1 := eq_true p_1
    replace q_1 := eq_true q_1
    go_wp2
    go_ret
    exact ⟨fz_, dr_⟩
   rw [if_neg c_7] at H
   have c_8 : decide ((rd l0 x_1) < 1) = false := decide_eq_false c_7
   clear c_7
   by_cases c_9 : (rd l0 x_1) > 7
   ·rw [if_pos c_9] at H
    have c_10 : decide (7 < (rd l0 x_1)) = true := decide_eq_true c_9
    clear c_9
    obtain rfl := Option.some.inj H
    have p_1 : 0 ≤ (x_1 : Int) := od_
    have q_1 : x_1 < (l0.length : Int) := od_
    obtain ⟨ad_1, e_1, hx_1⟩ := Kd.at_int HR_1.out x_1 p_1 q_1
    cases e_1
    replace p_1 := eq_true p_1
    replace q_1 := eq_true q_1
    go_wp2
    go_ret
    exact ⟨fz_, dr_⟩
   rw [if_neg c_9] at H
   have c_10 : decide (7 < (rd l0 x_1)) = false := decide_eq_false c_9
   clear c_9
   by_cases c_11 : x_1 > 0
   rotate_left
   ·rw [if_neg c_11] at H
    have c_12 : decide (0 < x_1) = false := decide_eq_false c_11
    clear c_11
    have H' := a_ H
    clear H
    have p_1 : 0 ≤ (x_1 : Int) := od_
    have q_1 : x_1 < (l0.length : Int) := od_
    obtain ⟨ad_1, e_1, hx_1⟩ := Kd.at_int HR_1.out x_1 p_1 q_1
    cases e_1
    replace p_1 := eq_true p_1
    replace q_1 := eq_true q_1
    go_wp2
    go_roundg k1
    case measure => have := HK_1.out; omega
    case rel => exact ⟨(wrap64 (x_1 + 1)), fz_, H', ⟨by have := HK_1.out; omega⟩, dr_⟩
   rw [if_pos c_11] at H
   have c_12 : decide (0 < x_1) = true := decide_eq_true c_11
   clear c_11
   obtain ⟨ji_1, hji_1⟩ : ∃ j_ : Int, (wrap64 (x_1 - 1)) = j_ := ⟨_, rfl⟩
   replace H : (if 0 ≤ (ji_1) then (if (ji_1) < (l0.length : Int) then (if (rd l0 (ji_1)) ≥ (rd l0 x_1) then (some false) else (gafferref03_Members.l0 k1 l0 l0 (l0.length : Int) (wrap64 (x_1 + 1)))) else (none)) else (none)) = some r := by first | (rw [hji_1] at H; exact H) | (simp only [hji_1] at H ⊢; exact H)
   have hji_2 : (IntKind.i64.wrap (x_1 - 1)) = ji_1 := (i64_w _).trans hji_1
   replace H := ip_ H
   obtain ⟨-, c_14, H⟩ := H
   replace H := ip_ H
   obtain ⟨-, c_16, H⟩ := H
   by_cases c_17 : (rd l0 (ji_1)) ≥ (rd l0 x_1)
   ·rw [if_pos c_17] at H
    have c_18 : decide ((rd l0 x_1) ≤ (rd l0 (ji_1))) = true := decide_eq_true c_17
    clear c_17
    obtain rfl := Option.some.inj H
    have p_1 : 0 ≤ (x_1 : Int) := od_
    have q_1 : x_1 < (l0.length : Int) := od_
    obtain ⟨ad_1, e_1, hx_1⟩ := Kd.at_int HR_1.out x_1 p_1 q_1
    cases e_1
    replace p_1 := eq_true p_1
    replace q_1 := eq_true q_1
    have p_2 : 0 ≤ ((ji_1) : Int) := od_
    have q_2 : (ji_1) < (l0.length : Int) := od_
    obtain ⟨ad_2, e_2, hx_2⟩ := Kd.at_int HR_1.out (ji_1) p_2 q_2
    obtain rfl : ad_1 = ad_2 := (by injection e_2)
    replace p_2 := eq_true p_2
    replace q_2 := eq_true q_2
    go_wp2
    go_ret
    exact ⟨by first | rfl | (simp; done) | (simp only [← hji_1] <;> (first | rfl | simp)) | (simp [*]; done), dr_⟩
   rw [if_neg c_17] at H
   have c_18 : decide ((rd l0 x_1) ≤ (rd l0 (ji_1))) = false := decide_eq_false c_17
   clear c_17
   have H' := a_ H
   clear H
   have p_1 : 0 ≤ (x_1 : Int) := od_
   have q_1 : x_1 < (l0.length : Int) := od_
   obtain ⟨ad_1, e_1, hx_1⟩ := Kd.at_int HR_1.out x_1 p_1 q_1
   cases e_1
   replace p_1 := eq_true p_1
   replace q_1 := eq_true q_1
   have p_2 : 0 ≤ ((ji_1) : Int) := od_
   have q_2 : (ji_1) < (l0.length : Int) := od_
   obtain ⟨ad_2, e_2, hx_2⟩ := Kd.at_int HR_1.out (ji_1) p_2 q_2
   obtain rfl : ad_1 = ad_2 := (by injection e_2)
   replace p_2 := eq_true p_2
   replace q_2 := eq_true q_2
   go_wp2
   go_roundg k1
   case measure => have := HK_1.out; omega
   case rel => exact ⟨(wrap64 (x_1 + 1)), fz_, H', ⟨by have := HK_1.out; omega⟩, dr_⟩

def gafferref05_Check.f (k : Nat) (a0_0 : Int) (a0_1 : Int) (l0_2 : List Int) (a0_3 : ByteArray) : Option (Int) := (gafferref05_nothing.f a0_0 a0_1 l0_2 a0_3).bind fun t400 => (if t400 = true then (some 0) else ((gafferref03_Members.f k l0_2).bind fun t401 => (if t401 = true then (if (a0_3.size : Int) ≤ 64512 then (some 0) else (some 4)) else (some 4))))
theorem gafferref05_Check.mono : ∀ a0 a1 a2 a3 k, LeO (gafferref05_Check.f k a0 a1 a2 a3) (gafferref05_Check.f (k + 1) a0 a1 a2 a3) := by
 intro a0 a1 a2 a3 k
 unfold gafferref05_Check.f
 repeat' with_reducible first | apply gafferref03_Members.mono | apply LeO.refl | apply LeO.none | apply LeO.ite | refine LeO.bind ?_ (fun _ => ?_)
theorem gafferref05_Check.calls (k : Nat) (a0_0 : Int) (a0_1 : Int) (A0_2 : Option Addr) (c0_2 : Nat) (l0_2 : List Int) (a0_3 : ByteArray) (r : Int) (w : World) (hr0_2 : Kd.C (Kd.int .i64) w A0_2 l0_2.length l0_2) (hc0_2 : l0_2.length ≤ c0_2) (h : gafferref05_Check.f k a0_0 a0_1 l0_2 a0_3 = some r) :
  Calls Try.prog 32 #[.agg #[.int .u64 a0_0, .int .u64 a0_1, .slice A0_2 l0_2.length c0_2, .string a0_3]] w fun e w' => e = .returned (.int .i64 r) ∧ Below w.heap.size w w' := by
 have hu_1 := Try.underlying48
 have HR_1 := a_ hr0_2
 have HC_1 := a_ hc0_2
 clear hr0_2 hc0_2
 have HB := a_ (Below.refl w.heap.size w)
 have H := h
 unfold gafferref05_Check.f at H
 clear h
 obtain ⟨t_1, A_2, H⟩ := ob_ H
 try dsimp only at H
 by_cases c_1 : t_1 = true
 focus
  subst c_1
  rw [if_pos rfl] at H
  obtain rfl := Option.some.inj H
  have L0_ := trivial
 rotate_left
 focus
  replace c_1 := Bool.eq_false_iff.mpr c_1
  subst c_1
  rw [if_neg (show ¬ (false = true) by decide)] at H
  obtain ⟨t_2, A_4, H⟩ := ob_ H
  try dsimp only at H
  by_cases c_2 : t_2 = true
  rotate_left
  focus
   replace c_2 := Bool.eq_false_iff.mpr c_2
   subst c_2
   rw [if_neg (show ¬ (false = true) by decide)] at H
   obtain rfl := Option.some.inj H
   have L1_ := trivial
  rotate_left
  focus
   subst c_2
   rw [if_pos rfl] at H
   by_cases c_3 : (a0_3.size : Int) ≤ 64512
   focus
    rw [if_pos c_3] at H
    have c_4 : decide ((a0_3.size : Int) ≤ 64512) = true := decide_eq_true c_3
    have c_5 : decide (a0_3.size ≤ 64512) = true := decide_eq_true (by omega)
    clear c_3
    obtain rfl := Option.some.inj H
    have L1_ := trivial
   rotate_left
   rw [if_neg c_3] at H
   have c_4 : decide ((a0_3.size : Int) ≤ 64512) = false := decide_eq_false c_3
   have c_5 : decide (a0_3.size ≤ 64512) = false := decide_eq_false (by omega)
   clear c_3
   obtain rfl := Option.some.inj H
   have L1_ := trivial
 all_goals
  go_enter Try.func32, Try.ntmps32
  first
  | (have _ := L0_
     go_wp2_with (first | ((with_reducible refine gd_ 1 ?_); (try (refine gate_guard (by rfl) ?_; dsimp only)); refine bz_ 1 #[.int .u64 a0_0, .int .u64 a0_1, .slice A0_2 l0_2.length c0_2, .string a0_3] 48 ?_; intro gb_1 hg w_1 BK_1 hb; have GE_1 := a_ (bs_0 hg HB); replace HB := hB_ (bl_ HB) hb; clear hb hg; obtain ⟨_, _, _, _, _, _, _, _⟩ := c4_ BK_1) | ((with_reducible refine gk_ 57 ?_); refine gl_ (some 4) Try.func57 #[.agg #[.int .u64 a0_0, .int .u64 a0_1, .slice A0_2 l0_2.length c0_2, .string a0_3]] ?_; (with_reducible refine (gafferref05_nothing.calls _ _ _ _ _ _ _ _ ?side1 ?side2 A_2.out).mono ?_); (case side1 => exact cl_ (Kd.C_below HR_1.out HB.out)); (case side2 => exact HC_1.out); rintro e w_2 ⟨rfl, hb⟩; refine ⟨_, rfl, ?_⟩; replace BK_1 := bB_ BK_1 hb; replace HB := hB_ (bl_1 HB GE_1) hb; (try clear hb)))
     go_ret
     exact ⟨fz_, bl_1 HB GE_1⟩)
  | (have _ := L1_
     go_wp2_with (first | ((with_reducible refine gd_ 1 ?_); (try (refine gate_guard (by rfl) ?_; dsimp only)); refine bz_ 1 #[.int .u64 a0_0, .int .u64 a0_1, .slice A0_2 l0_2.length c0_2, .string a0_3] 48 ?_; intro gb_1 hg w_1 BK_1 hb; have GE_1 := a_ (bs_0 hg HB); replace HB := hB_ (bl_ HB) hb; clear hb hg; obtain ⟨_, _, _, _, _, _, _, _⟩ := c4_ BK_1) | ((with_reducible refine gk_ 57 ?_); refine gl_ (some 4) Try.func57 #[.agg #[.int .u64 a0_0, .int .u64 a0_1, .slice A0_2 l0_2.length c0_2, .string a0_3]] ?_; (with_reducible refine (gafferref05_nothing.calls _ _ _ _ _ _ _ _ ?side1 ?side2 A_2.out).mono ?_); (case side1 => exact cl_ (Kd.C_below HR_1.out HB.out)); (case side2 => exact HC_1.out); rintro e w_2 ⟨rfl, hb⟩; refine ⟨_, rfl, ?_⟩; replace BK_1 := bB_ BK_1 hb; replace HB := hB_ (bl_1 HB GE_1) hb; (try clear hb); obtain ⟨_, _, _, _, _, _, _, _⟩ := c4_ BK_1) | (go_at_call 58; (with_reducible refine (gafferref03_Members.calls _ _ _ _ _ _ ?side1 ?side2 A_4.out).mono ?_); (case side1 => exact cl_ (Kd.C_below HR_1.out HB.out)); (case side2 => exact HC_1.out); rintro e w' ⟨rfl, ⟨nd, rfl⟩⟩))
     go_ret
     exact ⟨fz_, bl_1 HB GE_1⟩)

mutual
def gafferref01_TakeNumber.j0 : Nat → ByteArray → Int → Bool → Option (Int × ByteArray × Int)
 | 0, _, _, _ => none
 | k + 1, x0, x5, x26 => if x26 = true then (some (0, (⟨#[]⟩ : ByteArray), 4)) else (if (x0.size : Int) < (wrap64 (x5 + 1)) then (some (0, (⟨#[]⟩ : ByteArray), 3)) else (gafferref01_TakeNumber.l0 k x0 x5 0 1))
def gafferref01_TakeNumber.l0 : Nat → ByteArray → Int → Int → Int → Option (Int × ByteArray × Int)
 | 0, _, _, _, _ => none
 | k + 1, x0, x5, x6, x7 => if x7 ≤ x5 then (if 0 ≤ x7 then (if x7 < (x0.size : Int) then (gafferref01_TakeNumber.l0 k x0 x5 (IntKind.u64.wrap ((IntKind.u64.wrap (256 * x6)) + (IntKind.u64.wrap (bt x0 x7)))) (wrap64 (x7 + 1))) else (none)) else (none)) else (if 0 ≤ (wrap64 (x5 + 1)) then (if (wrap64 (x5 + 1)) ≤ (x0.size : Int) then (some (x6, x0.extract ((wrap64 (x5 + 1)) : Int).toNat x0.size, 0)) else (none)) else (none))
end
def gafferref01_TakeNumber.f (k : Nat) (a0 : ByteArray) : Option (Int × ByteArray × Int) := if a0.toList = ([] : List UInt8) then (some (0, (⟨#[]⟩ : ByteArray), 3)) else (if 0 < (a0.size : Int) then (if (wrap64 (bt a0 0)) > 8 then (some (0, (⟨#[]⟩ : ByteArray), 4)) else (if (wrap64 (bt a0 0)) > 0 then (if (a0.size : Int) > 1 then (if 1 < (a0.size : Int) then (gafferref01_TakeNumber.j0 k a0 (wrap64 (bt a0 0)) ((bt a0 1) == 0)) else (none)) else (gafferref01_TakeNumber.j0 k a0 (wrap64 (bt a0 0)) false)) else (gafferref01_TakeNumber.j0 k a0 (wrap64 (bt a0 0)) false))) else (none))
theorem gafferref01_TakeNumber.mono_l : ∀ k, (∀ y0 y1 y2, LeO (gafferref01_TakeNumber.j0 k y0 y1 y2) (gafferref01_TakeNumber.j0 (k + 1) y0 y1 y2)) ∧ (∀ y0 y1 y2 y3, LeO (gafferref01_TakeNumber.l0 k y0 y1 y2 y3) (gafferref01_TakeNumber.l0 (k + 1) y0 y1 y2 y3))
 | 0 => ⟨fun _ _ _ r h => by simp [gafferref01_TakeNumber.j0] at h, fun _ _ _ _ r h => by simp [gafferref01_TakeNumber.l0] at h⟩
 | k + 1 => by
  obtain ⟨ih0, ih1⟩ := gafferref01_TakeNumber.mono_l k
  refine ⟨?_, ?_⟩
  ·intro y0 y1 y2
   unfold gafferref01_TakeNumber.j0
   repeat' with_reducible first | apply ih0 | apply ih1 | apply LeO.refl | apply LeO.none | apply LeO.ite | refine LeO.bind ?_ (fun _ => ?_)
  ·intro y0 y1 y2 y3
   unfold gafferref01_TakeNumber.l0
   repeat' with_reducible first | apply ih0 | apply ih1 | apply LeO.refl | apply LeO.none | apply LeO.ite | refine LeO.bind ?_ (fun _ => ?_)
theorem gafferref01_TakeNumber.mono : ∀ a0 k, LeO (gafferref01_TakeNumber.f k a0) (gafferref01_TakeNumber.f (k + 1) a0) := by
 intro a0 k
 obtain ⟨ih0, ih1⟩ := gafferref01_TakeNumber.mono_l k
 unfold gafferref01_TakeNumber.f
 repeat' with_reducible first | apply ih0 | apply ih1 | apply LeO.refl | apply LeO.none | apply LeO.ite | refine LeO.bind ?_ (fun _ => ?_)
theorem gafferref01_TakeNumber.calls (k : Nat) (a0 : ByteArray) (r1 : Int) (r2 : ByteArray) (r3 : Int) (w : World) (h : gafferref01_TakeNumber.f k a0 = some (r1, r2, r3)) :
  Calls Try.prog 43 #[.string a0] w fun e w' => e = .returned (.tuple #[.int .u64 r1, .string r2, .int .i64 r3]) ∧ Drawn0 w w' := by
 have H := h
 unfold gafferref01_TakeNumber.f at H
 clear h
 by_cases c2 : a0.toList = ([] : List UInt8)
 ·rw [if_pos c2] at H
  obtain ⟨c2b0, c2b1⟩ := be_ c2
  clear c2
  obtain ⟨rfl, rfl, rfl⟩ := so3_ H
  go_enter Try.func43, Try.ntmps43
  go_wp2
  repeat (go_quiet (fail); try go_wp2)
  go_ret3
  exact ⟨fz_, dr_⟩
 rw [if_neg c2] at H
 obtain ⟨c2b0, c2b1⟩ := bn_ c2
 by_cases c3 : 0 < (a0.size : Int)
 rotate_left
 ·rw [if_neg c3] at H
  exact absurd H (by simp)


 rw [if_pos c3] at H
 have c3b0 : decide (0 < (a0.size : Int)) = true := decide_eq_true c3
 have c3b1 : decide (0 < a0.size) = true := decide_eq_true (by omega)
 clear c3
 by_cases c5 : (wrap64 (bt a0 0)) > 8
 ·rw [if_pos c5] at H
  have c5b0 : decide (8 < (wrap64 (bt a0 0))) = true := decide_eq_true c5
  clear c5
  obtain ⟨rfl, rfl, rfl⟩ := so3_ H
  have p4 : 0 ≤ (0 : Int) := (by omega)
  have q4 : 0 < a0.size := (by have : (0 : Int) < (a0.size : Int) := od_; omega)
  have hx4 : ∀ h : 0 < a0.size, ((a0[0]'h).toNat : Int) = bt a0 0 := bt_at a0 0
  clear p4
  have qi4 : (0 < (a0.size : Int)) = True := eq_true od_
  replace q4 := eq_true q4
  go_enter Try.func43, Try.ntmps43
  go_wp2
  repeat (go_quiet (fail); try go_wp2)
  go_ret3
  exact ⟨fz_, dr_⟩
 rw [if_neg c5] at H
 have c5b0 : decide (8 < (wrap64 (bt a0 0))) = false := decide_eq_false c5
 clear c5
 have HC6 := a_ H
 clear H
 have p4 : 0 ≤ (0 : Int) := (by omega)
 have q4 : 0 < a0.size := (by have : (0 : Int) < (a0.size : Int) := od_; omega)
 have hx4 : ∀ h : 0 < a0.size, ((a0[0]'h).toNat : Int) = bt a0 0 := bt_at a0 0
 clear p4
 have qi4 : (0 < (a0.size : Int)) = True := eq_true od_
 replace q4 := eq_true q4
 go_enter Try.func43, Try.ntmps43
 go_upto_region 6 with (fail)
 repeat (go_quiet (fail); go_upto_region 6 with (fail))
 go_cut [26] (fun v26 wc => ∃ (kq : Nat) (x26_5 : Bool), v26 = .bool x26_5 ∧ Aside0 (gafferref01_TakeNumber.j0 kq a0 (wrap64 (bt a0 0)) x26_5 = some (r1, r2, r3)) ∧ Aside0 (kq ≤ k) ∧ Drawn0 w wc)
 case first =>
  have H := HC6.out
  clear HC6
  by_cases c7 : (wrap64 (bt a0 0)) > 0
  rotate_left
  ·rw [if_neg c7] at H
   have c7b0 : decide (0 < (wrap64 (bt a0 0))) = false := decide_eq_false c7
   clear c7
   (first | rw [c7b0] | (simp only [i64_w, i32_w]; rw [c7b0]) | skip)
   have H' := a_ H
   clear H
   go_wp2
   repeat (go_quiet (fail); try go_wp2)
   go_meet
   case rel => exact ⟨_, (false), fz_, H', ⟨by first | omega | exact Nat.le_refl _⟩, dr_⟩
  rw [if_pos c7] at H
  have c7b0 : decide (0 < (wrap64 (bt a0 0))) = true := decide_eq_true c7
  clear c7
  (first | rw [c7b0] | (simp only [i64_w, i32_w]; rw [c7b0]) | skip)
  by_cases c8 : (a0.size : Int) > 1
  rotate_left
  ·rw [if_neg c8] at H
   have c8b0 : decide (1 < (a0.size : Int)) = false := decide_eq_false c8
   have c8b1 : decide (1 < a0.size) = false := decide_eq_false (by omega)
   clear c8
   have H' := a_ H
   clear H
   go_wp2
   repeat (go_quiet (fail); try go_wp2)
   go_meet
   case rel => exact ⟨_, (false), fz_, H', ⟨by first | omega | exact Nat.le_refl _⟩, dr_⟩
  rw [if_pos c8] at H
  have c8b0 : decide (1 < (a0.size : Int)) = true := decide_eq_true c8
  have c8b1 : decide (1 < a0.size) = true := decide_eq_true (by omega)
  clear c8
  replace H := iq_ H
  obtain ⟨c9, H⟩ := H
  have c9b0 : decide (1 < (a0.size : Int)) = true := decide_eq_true c9
  have c9b1 : decide (1 < a0.size) = true := decide_eq_true (by omega)
  clear c9
  have H' := a_ H
  clear H
  have p10 : 0 ≤ (1 : Int) := (by omega)
  have q10 : 1 < a0.size := (by have : (1 : Int) < (a0.size : Int) := od_; omega)
  have hx10 : ∀ h : 1 < a0.size, ((a0[1]'h).toNat : Int) = bt a0 1 := bt_at a0 1
  clear p10
  have qi10 : (1 < (a0.size : Int)) = True := eq_true od_
  replace q10 := eq_true q10
  go_wp2
  repeat (go_quiet (fail); try go_wp2)
  go_meet
  case rel => exact ⟨_, (((bt a0 1) == 0)), fz_, H', ⟨by first | omega | exact Nat.le_refl _⟩, dr_⟩
 case rest =>
  clear HC6
  try clear c2
  try clear c2b0
  try clear c2b1
  try clear c3
  try clear c3b0
  try clear c3b1
  try clear p4
  try clear q4
  try clear hx4
  try clear qi4
  try clear c5
  try clear c5b0
  try clear p4
  try clear q4
  obtain ⟨kq, x26_5, rfl, HA, HJ5, ⟨mc5, rfl⟩⟩ := hcut
  cases kq with
  | zero => exact absurd HA.out (by simp [gafferref01_TakeNumber.j0])
  | succ kj5 =>
   have H := HA.out
   clear HA
   simp only [gafferref01_TakeNumber.j0] at H
   by_cases c11 : x26_5 = true
   ·subst c11
    have H1 : (some (0, (⟨#[]⟩ : ByteArray), 4)) = some (r1, r2, r3) := by rw [if_pos rfl] at H; exact H
    clear H
    have H := H1
    clear H1
    obtain ⟨rfl, rfl, rfl⟩ := so3_ H
    go_wp2
    repeat (go_quiet (fail); try go_wp2)
    go_ret3
    exact ⟨fz_, dr_⟩
   replace c11 := Bool.eq_false_iff.mpr c11
   subst c11
   have H1 : (if (a0.size : Int) < (wrap64 ((wrap64 (bt a0 0)) + 1)) then (some (0, (⟨#[]⟩ : ByteArray), 3)) else (gafferref01_TakeNumber.l0 kj5 a0 (wrap64 (bt a0 0)) 0 1)) = some (r1, r2, r3) := by rw [if_neg (show ¬ (false = true) by decide)] at H; exact H
   clear H
   have H := H1
   clear H1
   by_cases c12 : (a0.size : Int) < (wrap64 ((wrap64 (bt a0 0)) + 1))
   ·rw [if_pos c12] at H
    have c12b0 : decide ((a0.size : Int) < (wrap64 ((wrap64 (bt a0 0)) + 1))) = true := decide_eq_true c12
    clear c12
    obtain ⟨rfl, rfl, rfl⟩ := so3_ H
    go_wp2
    repeat (go_quiet (fail); try go_wp2)
    go_ret3
    exact ⟨fz_, dr_⟩
   rw [if_neg c12] at H
   have c12b0 : decide ((a0.size : Int) < (wrap64 ((wrap64 (bt a0 0)) + 1))) = false := decide_eq_false c12
   clear c12
   have H' := a_ H
   clear H
   go_wp2
   repeat (go_quiet (fail); try go_wp2)
   go_loopg [6, 7] kj5 (fun kq v6 v7 w' => ∃ (x6_2 : Int) (x7_2 : Int), v6 = .int .u64 x6_2 ∧ v7 = .int .i64 x7_2 ∧ Aside0 (gafferref01_TakeNumber.l0 kq a0 (wrap64 (bt a0 0)) x6_2 x7_2 = some (r1, r2, r3)) ∧ Aside0 (kq ≤ kj5) ∧ Drawn0 w w')
   case atStart => exact ⟨(0), (1), fz_, fz_, H', ⟨Nat.le_refl _⟩, dr_⟩
   case round =>
    clear H'
    try clear c2
    try clear c2b0
    try clear c2b1
    try clear c3
    try clear c3b0
    try clear c3b1
    try clear p4
    try clear q4
    try clear hx4
    try clear qi4
    try clear c5
    try clear c5b0
    try clear c11
    try clear c12
    try clear c12b0
    try clear p4
    try clear q4
    obtain ⟨x6_2, x7_2, rfl, rfl, HA, HK2, ⟨m2, rfl⟩⟩ := hrel
    cases gk with
    | zero => exact absurd HA.out (by simp [gafferref01_TakeNumber.l0])
    | succ k2 =>
     have H := HA.out
     clear HA
     simp only [gafferref01_TakeNumber.l0] at H
     by_cases c13 : x7_2 ≤ (wrap64 (bt a0 0))
     ·rw [if_pos c13] at H
      have c13b0 : decide (x7_2 ≤ (wrap64 (bt a0 0))) = true := decide_eq_true c13
      clear c13
      replace H := ip_ H
      obtain ⟨-, c14b0, H⟩ := H
      replace H := ip_ H
      obtain ⟨-, c15b0, H⟩ := H
      have H' := a_ H
      clear H
      have p16 : 0 ≤ (x7_2 : Int) := od_
      have q16 : x7_2 < (a0.size : Int) := od_
      have hx16 := bt_at a0 x7_2
      replace p16 := eq_true p16
      replace q16 := eq_true q16
      go_wp2
      repeat (go_quiet (fail); try go_wp2)
      go_roundg k2
      case measure => have := HJ5.out; have := HK2.out; omega
      case rel => exact ⟨(IntKind.u64.wrap ((IntKind.u64.wrap (256 * x6_2)) + (IntKind.u64.wrap (bt a0 x7_2)))), (wrap64 (x7_2 + 1)), fz_, fz_, H', ⟨by have := HJ5.out; have := HK2.out; omega⟩, dr_⟩
     rw [if_neg c13] at H
     have c13b0 : decide (x7_2 ≤ (wrap64 (bt a0 0))) = false := decide_eq_false c13
     clear c13
     obtain ⟨ji17, hji17⟩ : ∃ j_ : Int, (wrap64 ((wrap64 (bt a0 0)) + 1)) = j_ := ⟨_, rfl⟩
     replace H : (if 0 ≤ (ji17) then (if (ji17) ≤ (a0.size : Int) then (some (x6_2, a0.extract ((ji17) : Int).toNat a0.size, 0)) else (none)) else (none)) = some (r1, r2, r3) := by first | (rw [hji17] at H; exact H) | (simp only [hji17] at H ⊢; exact H)
     (try rw [hji17] at c12b0)
     have hji17w : (IntKind.i64.wrap ((wrap64 (bt a0 0)) + 1)) = ji17 := (i64_w _).trans hji17
     replace H := iq_ H
     obtain ⟨c18, H⟩ := H
     have c18b0 := eq_true c18
     have c18b1 : decide (0 ≤ (ji17)) = true := decide_eq_true c18
     clear c18
     replace H := iq_ H
     obtain ⟨c19, H⟩ := H
     have c19b0 := eq_true c19
     have c19b1 : decide ((ji17) ≤ (a0.size : Int)) = true := decide_eq_true c19
     clear c19
     obtain ⟨rfl, rfl, rfl⟩ := so3_ H
     go_wp2
     repeat (go_quiet (fail); try go_wp2)
     go_ret3
     exact ⟨by first | rfl | (simp; done) | (simp only [← hji17] <;> (first | rfl | simp)) | (simp [*]; done), dr_⟩
mutual
def gafferref03_TakeInts.j0 : Nat → Int → ByteArray → Bool → Option (List Int × ByteArray × Bool)
 | 0, _, _, _ => none
 | k + 1, x5, x6, x24 => if x24 = true then (some (([] : List Int), (⟨#[]⟩ : ByteArray), false)) else (gafferref03_TakeInts.l0 k x5 x6 ([] : List Int) 0)
def gafferref03_TakeInts.l0 : Nat → Int → ByteArray → List Int → Int → Option (List Int × ByteArray × Bool)
 | 0, _, _, _, _ => none
 | k + 1, x5, x6, x8, x9 => if x9 < x5 then ((gafferref01_TakeNumber.f k x6).bind fun bt405 => (if bt405.2.2 = 0 then (if bt405.1 > 7 then (some (([] : List Int), (⟨#[]⟩ : ByteArray), false)) else (if x8.length < 17592186044416 then (gafferref03_TakeInts.l0 k x5 bt405.2.1 (x8 ++ [wrap64 (bt405.1)]) (IntKind.u64.wrap (x9 + 1))) else (none))) else (some (([] : List Int), (⟨#[]⟩ : ByteArray), false)))) else (some (x8, x6, true))
end
def gafferref03_TakeInts.f (k : Nat) (a0 : ByteArray) : Option (List Int × ByteArray × Bool) := (gafferref01_TakeNumber.f k a0).bind fun bt402 => (if bt402.2.2 = 0 then (gafferref03_TakeInts.j0 k bt402.1 bt402.2.1 (decide (bt402.1 > 7))) else (gafferref03_TakeInts.j0 k bt402.1 bt402.2.1 true))
theorem gafferref03_TakeInts.mono_l : ∀ k, (∀ y0 y1 y2, LeO (gafferref03_TakeInts.j0 k y0 y1 y2) (gafferref03_TakeInts.j0 (k + 1) y0 y1 y2)) ∧ (∀ y0 y1 y2 y3, LeO (gafferref03_TakeInts.l0 k y0 y1 y2 y3) (gafferref03_TakeInts.l0 (k + 1) y0 y1 y2 y3))
 | 0 => ⟨fun _ _ _ r h => by simp [gafferref03_TakeInts.j0] at h, fun _ _ _ _ r h => by simp [gafferref03_TakeInts.l0] at h⟩
 | k + 1 => by
  obtain ⟨ih0, ih1⟩ := gafferref03_TakeInts.mono_l k
  refine ⟨?_, ?_⟩
  ·intro y0 y1 y2
   unfold gafferref03_TakeInts.j0
   repeat' with_reducible first | apply ih0 | apply ih1 | apply gafferref01_TakeNumber.mono | apply LeO.refl | apply LeO.none | apply LeO.ite | refine LeO.bind ?_ (fun _ => ?_)
  ·intro y0 y1 y2 y3
   unfold gafferref03_TakeInts.l0
   repeat' with_reducible first | apply ih0 | apply ih1 | apply gafferref01_TakeNumber.mono | apply LeO.refl | apply LeO.none | apply LeO.ite | refine LeO.bind ?_ (fun _ => ?_)
theorem gafferref03_TakeInts.mono : ∀ a0 k, LeO (gafferref03_TakeInts.f k a0) (gafferref03_TakeInts.f (k + 1) a0) := by
 intro a0 k
 obtain ⟨ih0, ih1⟩ := gafferref03_TakeInts.mono_l k
 unfold gafferref03_TakeInts.f
 repeat' with_reducible first | apply ih0 | apply ih1 | apply gafferref01_TakeNumber.mono | apply LeO.refl | apply LeO.none | apply LeO.ite | refine LeO.bind ?_ (fun _ => ?_)
theorem gafferref03_TakeInts.calls (k : Nat) (a0 : ByteArray) (r1 : List Int) (r2 : ByteArray) (r3 : Bool) (w : World) (h : gafferref03_TakeInts.f k a0 = some (r1, r2, r3)) :
  Calls Try.prog 89 #[.string a0] w fun e w' => ∃ v0_ : Value, e = .returned (.tuple #[v0_, .string r2, .bool r3]) ∧ Kd.R (Kd.int .i64) 3 w' w.heap.size (fun _ => True) v0_ r1 ∧ Below w.heap.size w w' := by
 have HB := a_ (Below.refl w.heap.size w)
 have H := h
 unfold gafferref03_TakeInts.f at H
 clear h
 obtain ⟨⟨t402, t403, t404⟩, A2, H⟩ := ob_ H
 try dsimp only at H
 have HC3 := a_ H
 clear H
 go_enter Try.func89, Try.ntmps89
 go_upto_region 2 with (first | ((with_reducible refine gk_ 43 ?_); refine gl_ (some 15) Try.func43 #[.string a0] ?_; (with_reducible refine (gafferref01_TakeNumber.calls _ _ _ _ _ _ A2.out).mono ?_); rintro e w' ⟨rfl, ⟨nd, rfl⟩⟩; refine ⟨_, rfl, ?_⟩))
 (try simp only [Act.put, List.setIfInBounds_toArray, List.set_cons_zero, List.set_cons_succ])
 go_cut [24] (fun v24 wc => ∃ (kq : Nat) (x24_2 : Bool), v24 = .bool x24_2 ∧ Aside0 (gafferref03_TakeInts.j0 kq t402 t403 x24_2 = some (r1, r2, r3)) ∧ Aside0 (kq ≤ k) ∧ Aside0 (Below w.heap.size w wc))
 case first =>
  have H := HC3.out
  clear HC3
  by_cases c4 : t404 = 0
  rotate_left
  ·rw [if_neg c4] at H
   obtain ⟨c4b0, c4b1⟩ := bn_ c4
   (first | rw [c4b0] | (simp only [i64_w, i32_w]; rw [c4b0]) | skip)
   have H' := a_ H
   clear H
   go_wp2
   go_meet
   case rel => exact ⟨_, (true), fz_, H', ⟨by first | omega | exact Nat.le_refl _⟩, ⟨bl_ HB⟩⟩
  rw [if_pos c4] at H
  obtain ⟨c4b0, c4b1⟩ := be_ c4
  clear c4
  (first | rw [c4b0] | (simp only [i64_w, i32_w]; rw [c4b0]) | skip)
  have H' := a_ H
  clear H
  go_wp2
  go_meet
  case rel => exact ⟨_, (decide (t402 > 7)), fz_, H', ⟨by first | omega | exact Nat.le_refl _⟩, ⟨bl_ HB⟩⟩
 case rest =>
  clear HC3
  obtain ⟨kq, x24_2, rfl, HA, HJ2, HB⟩ := hcut
  cases kq with
  | zero => exact absurd HA.out (by simp [gafferref03_TakeInts.j0])
  | succ kj2 =>
   have H := HA.out
   clear HA
   simp only [gafferref03_TakeInts.j0] at H
   by_cases c5 : x24_2 = true
   ·subst c5
    have H1 : (some (([] : List Int), (⟨#[]⟩ : ByteArray), false)) = some (r1, r2, r3) := by rw [if_pos rfl] at H; exact H
    clear H
    have H := H1
    clear H1
    obtain ⟨rfl, rfl, rfl⟩ := so3_ H
    go_wp2
    go_ret3
    exact ⟨_, fz_, nl_, bl_ HB⟩
   replace c5 := Bool.eq_false_iff.mpr c5
   subst c5
   have H1 : (gafferref03_TakeInts.l0 kj2 t402 t403 ([] : List Int) 0) = some (r1, r2, r3) := by rw [if_neg (show ¬ (false = true) by decide)] at H; exact H
   clear H
   have H := H1
   clear H1
   have H' := a_ H
   clear H
   go_wp2
   go_loopg [6, 8, 9] kj2 (fun kq v6 v8 v9 w' => ∃ (x6_2 : ByteArray) (x8_2 : List Int) (x9_2 : Int), v6 = .string x6_2 ∧ v9 = .int .u64 x9_2 ∧ Aside0 (gafferref03_TakeInts.l0 kq t402 x6_2 x8_2 x9_2 = some (r1, r2, r3)) ∧ Aside0 (kq ≤ kj2) ∧ Aside0 (Kd.R (Kd.int .i64) 3 w' w.heap.size (fun _ => True) v8 x8_2) ∧ Aside0 (Below w.heap.size w w'))
   case atStart => exact ⟨(t403), (([] : List Int)), (0), fz_, fz_, H', ⟨Nat.le_refl _⟩, ⟨nl_⟩, ⟨bl_ HB⟩⟩
   case round =>
    clear H'
    try clear c5
    obtain ⟨x6_2, x8_2, x9_2, rfl, rfl, HA, HK2, HO_8, HB⟩ := hrel
    cases gk with
    | zero => exact absurd HA.out (by simp [gafferref03_TakeInts.l0])
    | succ k2 =>
     have H := HA.out
     clear HA
     simp only [gafferref03_TakeInts.l0] at H
     by_cases c6 : x9_2 < t402
     rotate_left
     ·rw [if_neg c6] at H
      have c6b0 : decide (x9_2 < t402) = false := decide_eq_false c6
      clear c6
      obtain ⟨rfl, rfl, rfl⟩ := so3_ H
      go_wp2
      go_ret3
      exact ⟨_, fz_, by refine rq_ ?_; exact HO_8.out, bl_ HB⟩


     rw [if_pos c6] at H
     have c6b0 : decide (x9_2 < t402) = true := decide_eq_true c6
     clear c6
     obtain ⟨⟨t405, t406, t407⟩, A7, H⟩ := ob_ H
     try dsimp only at H
     by_cases c8 : t407 = 0
     rotate_left
     ·rw [if_neg c8] at H
      obtain ⟨c8b0, c8b1⟩ := bn_ c8
      obtain ⟨rfl, rfl, rfl⟩ := so3_ H
      go_wp2_with (first | ((with_reducible refine gk_ 43 ?_); refine gl_ (some 32) Try.func43 #[.string x6_2] ?_; (with_reducible refine (gafferref01_TakeNumber.calls _ _ _ _ _ _ A7.out).mono ?_); rintro e w' ⟨rfl, ⟨nd, rfl⟩⟩; refine ⟨_, rfl, ?_⟩))
      go_ret3
      exact ⟨_, fz_, nl_, bl_ HB⟩
     rw [if_pos c8] at H
     obtain ⟨c8b0, c8b1⟩ := be_ c8
     clear c8
     by_cases c9 : t405 > 7
     ·rw [if_pos c9] at H
      have c9b0 : decide (7 < t405) = true := decide_eq_true c9
      clear c9
      obtain ⟨rfl, rfl, rfl⟩ := so3_ H
      go_wp2_with (first | ((with_reducible refine gk_ 43 ?_); refine gl_ (some 32) Try.func43 #[.string x6_2] ?_; (with_reducible refine (gafferref01_TakeNumber.calls _ _ _ _ _ _ A7.out).mono ?_); rintro e w' ⟨rfl, ⟨nd, rfl⟩⟩; refine ⟨_, rfl, ?_⟩))
      go_ret3
      exact ⟨_, fz_, nl_, bl_ HB⟩
     rw [if_neg c9] at H
     have c9b0 : decide (7 < t405) = false := decide_eq_false c9
     clear c9
     replace H := iq_ H
     obtain ⟨c10, H⟩ := H
     have LMc10 := a_ c10
     clear c10
     obtain ⟨y408, hy408⟩ : ∃ y_ : List Int, y_ = (x8_2 ++ [wrap64 (t405)]) := ⟨_, rfl⟩
     replace H : (gafferref03_TakeInts.l0 k2 t402 t406 y408 (IntKind.u64.wrap (x9_2 + 1))) = some (r1, r2, r3) := by first | (rw [hy408]; with_reducible exact H) | (have H2_ := (Option.bind_some _ _).symm.trans H; rw [hy408]; with_reducible exact H2_) | (have H2_ := (Option.bind_some _ _).symm.trans H; with_reducible exact H2_) | with_reducible exact H | (rw [hy408]; exact H) | exact H
     have Ny408 := a_ hy408
     clear hy408
     have H' := a_ H
     clear H
     go_wp2_with (first | ((with_reducible refine gk_ 43 ?_); refine gl_ (some 32) Try.func43 #[.string x6_2] ?_; (with_reducible refine (gafferref01_TakeNumber.calls _ _ _ _ _ _ A7.out).mono ?_); rintro e w' ⟨rfl, ⟨nd, rfl⟩⟩; refine ⟨_, rfl, ?_⟩) | ((with_reducible refine gate_builtin (b := .append) (xs := #[.tmp 42, .tmp 45]) rfl ?_); at_builtin; refine Kd.R_append (Kd.int .i64) (w0 := w) w.heap.size rfl (.tmp 42) (.tmp 45) 38 3 (.int .i64 0) 8 rfl Try.underlying38 info3 rfl (by decide) (by omega) u8 x8_2 (wrap64 (t405)) [.int .i64 (wrap64 (t405))] (fun _ => True) (fun _ => False) rfl rfl ?aP (fun _ hk => hk.elim) ?aF ?aO ?aB ?aS ?aL ?_; (case aP => exact rfl); (case aB => exact (bl_ HB)); (case aF => exact (fun _ _ => trivial)); (case aO => exact (by refine rq_ ?_; exact HO_8.out)); (case aS => exact (below_size (bl_ HB))); (case aL => have := LMc10.out; omega); intro v409 w11 ho hb hg hat; rw [← Ny408.out] at ho; replace HB := a_ (hb); have HO410 := a_ (ho); clear HO_8; clear ho hb hg hat))
     go_roundg k2
     case measure => have := HJ2.out; have := HK2.out; omega
     case rel => exact ⟨(t406), (y408), (IntKind.u64.wrap (x9_2 + 1)), fz_, fz_, H', ⟨by have := HJ2.out; have := HK2.out; omega⟩, ⟨by refine rq_ ?_; exact HO410.out⟩, ⟨bl_ HB⟩⟩
def gafferref01_TakeText.f (k : Nat) (a0 : ByteArray) : Option (ByteArray × ByteArray × Int) := (gafferref01_TakeNumber.f k a0).bind fun bt411 => (if bt411.2.2 = 0 then (if bt411.1 > 65536 then (some ((⟨#[]⟩ : ByteArray), (⟨#[]⟩ : ByteArray), 2)) else (if (wrap64 (bt411.1)) > (bt411.2.1.size : Int) then (some ((⟨#[]⟩ : ByteArray), (⟨#[]⟩ : ByteArray), 3)) else (if 0 ≤ bt411.1 then (if bt411.1 ≤ (bt411.2.1.size : Int) then (some (bt411.2.1.extract 0 (bt411.1 : Int).toNat, bt411.2.1.extract (bt411.1 : Int).toNat bt411.2.1.size, 0)) else (none)) else (none)))) else (some ((⟨#[]⟩ : ByteArray), (⟨#[]⟩ : ByteArray), bt411.2.2)))
theorem gafferref01_TakeText.mono : ∀ a0 k, LeO (gafferref01_TakeText.f k a0) (gafferref01_TakeText.f (k + 1) a0) := by
 intro a0 k
 unfold gafferref01_TakeText.f
 repeat' with_reducible first | apply gafferref01_TakeNumber.mono | apply LeO.refl | apply LeO.none | apply LeO.ite | refine LeO.bind ?_ (fun _ => ?_)
theorem gafferref01_TakeText.calls (k : Nat) (a0 : ByteArray) (r1 : ByteArray) (r2 : ByteArray) (r3 : Int) (w : World) (h : gafferref01_TakeText.f k a0 = some (r1, r2, r3)) :
  Calls Try.prog 90 #[.string a0] w fun e w' => e = .returned (.tuple #[.string r1, .string r2, .int .i64 r3]) ∧ Drawn0 w w' := by
 have H := h
 unfold gafferref01_TakeText.f at H
 clear h
 obtain ⟨⟨t_1, t_2, t_3⟩, A_2, H⟩ := ob_ H
 try dsimp only at H
 by_cases c_1 : t_3 = 0
 rotate_left
 focus
  rw [if_neg c_1] at H
  obtain ⟨c_2, c_3⟩ := bn_ c_1
  obtain ⟨rfl, rfl, rfl⟩ := so3_ H
 rotate_left
 focus
  rw [if_pos c_1] at H
  obtain ⟨c_2, c_3⟩ := be_ c_1
  clear c_1
  by_cases c_4 : t_1 > 65536
  focus
   rw [if_pos c_4] at H
   have c_5 : decide (65536 < t_1) = true := decide_eq_true c_4
   clear c_4
   obtain ⟨rfl, rfl, rfl⟩ := so3_ H
  rotate_left
  focus
   rw [if_neg c_4] at H
   have c_5 : decide (65536 < t_1) = false := decide_eq_false c_4
   clear c_4
   by_cases c_6 : (wrap64 (t_1)) > (t_2.size : Int)
   focus
    rw [if_pos c_6] at H
    have c_7 : decide ((t_2.size : Int) < (wrap64 (t_1))) = true := decide_eq_true c_6
    clear c_6
    obtain ⟨rfl, rfl, rfl⟩ := so3_ H
   rotate_left
   focus
    rw [if_neg c_6] at H
    have c_7 : decide ((t_2.size : Int) < (wrap64 (t_1))) = false := decide_eq_false c_6
    clear c_6
    replace H := iq_ H
    obtain ⟨c_8, H⟩ := H
    have c_9 := eq_true c_8
    have c_10 : decide (0 ≤ t_1) = true := decide_eq_true c_8
    clear c_8
    replace H := iq_ H
    obtain ⟨c_11, H⟩ := H
    have c_12 := eq_true c_11
    have c_13 : decide (t_1 ≤ (t_2.size : Int)) = true := decide_eq_true c_11
    clear c_11
    have c_14 := eq_true (od_ : 0 ≤ t_1)
    have c_15 := eq_true (od_ : t_1 ≤ (t_2.size : Int))
    obtain ⟨rfl, rfl, rfl⟩ := so3_ H
 all_goals
  go_enter Try.func90, Try.ntmps90
  go_wp2_with (first | (go_at_call 43; (with_reducible refine (gafferref01_TakeNumber.calls _ _ _ _ _ _ A_2.out).mono ?_); rintro e w' ⟨rfl, ⟨nd, rfl⟩⟩; (try first | exact ⟨rfl, _, World.drewN_drewN _ _ _⟩ | exact ⟨rfl, _, Eq.trans (World.drewN_drewN _ _ _) (congrArg (World.drewN _) (Nat.add_assoc _ _ _))⟩)) | go_quiet (first | (go_at_call 43; (with_reducible refine (gafferref01_TakeNumber.calls _ _ _ _ _ _ A_2.out).mono ?_); rintro e w' ⟨rfl, ⟨nd, rfl⟩⟩; (try first | exact ⟨rfl, _, World.drewN_drewN _ _ _⟩ | exact ⟨rfl, _, Eq.trans (World.drewN_drewN _ _ _) (congrArg (World.drewN _) (Nat.add_assoc _ _ _))⟩))))
  go_ret3
  exact ⟨fz_, dr_⟩

def gafferref05_Take.f (k : Nat) (a0 : ByteArray) : Option (Int × Int × List Int × ByteArray × ByteArray × Bool) := (gafferref01_TakeNumber.f k a0).bind fun bt415 => ((gafferref01_TakeNumber.f k bt415.2.1).bind fun bt418 => ((gafferref03_TakeInts.f k bt418.2.1).bind fun bt421 => ((gafferref01_TakeText.f k bt421.2.1).bind fun bt426 => (if bt415.2.2 = 0 then (if bt418.2.2 = 0 then (if bt421.2.2 = true then (if bt426.2.2 = 0 then ((gafferref05_Check.f k bt415.1 bt418.1 bt421.1 bt426.1).bind fun t430 => (if t430 = 0 then (some (bt415.1, bt418.1, bt421.1, bt426.1, bt426.2.1, true)) else (some (0, 0, ([] : List Int), (⟨#[]⟩ : ByteArray), (⟨#[]⟩ : ByteArray), false)))) else (some (0, 0, ([] : List Int), (⟨#[]⟩ : ByteArray), (⟨#[]⟩ : ByteArray), false))) else (some (0, 0, ([] : List Int), (⟨#[]⟩ : ByteArray), (⟨#[]⟩ : ByteArray), false))) else (some (0, 0, ([] : List Int), (⟨#[]⟩ : ByteArray), (⟨#[]⟩ : ByteArray), false))) else (some (0, 0, ([] : List Int), (⟨#[]⟩ : ByteArray), (⟨#[]⟩ : ByteArray), false))))))
theorem gafferref05_Take.mono : ∀ a0 k, LeO (gafferref05_Take.f k a0) (gafferref05_Take.f (k + 1) a0) := by
 intro a0 k
 unfold gafferref05_Take.f
 repeat' with_reducible first | apply gafferref01_TakeNumber.mono | apply gafferref01_TakeText.mono | apply gafferref03_TakeInts.mono | apply gafferref05_Check.mono | apply LeO.refl | apply LeO.none | apply LeO.ite | refine LeO.bind ?_ (fun _ => ?_)
theorem gafferref05_Take.calls (k : Nat) (a0 : ByteArray) (r1 : Int) (r2 : Int) (r3 : List Int) (r4 : ByteArray) (r5 : ByteArray) (r6 : Bool) (w : World) (h : gafferref05_Take.f k a0 = some (r1, r2, r3, r4, r5, r6)) :
  Calls Try.prog 54 #[.string a0] w fun e w' => ∃ v2_ : Value, e = .returned (.tuple #[.agg #[.int .u64 r1, .int .u64 r2, v2_, .string r4], .string r5, .bool r6]) ∧ Kd.R (Kd.int .i64) 3 w' w.heap.size (fun _ => True) v2_ r3 ∧ Below w.heap.size w w' := by
 have hu_1 := Try.underlying48
 have HB := a_ (Below.refl w.heap.size w)
 have H := h
 unfold gafferref05_Take.f at H
 clear h
 obtain ⟨⟨t_1, t_2, t_3⟩, A_2, H⟩ := ob_ H
 try dsimp only at H
 obtain ⟨⟨t_4, t_5, t_6⟩, A_4, H⟩ := ob_ H
 try dsimp only at H
 obtain ⟨⟨t_7, t_8, t_9⟩, A_6, H⟩ := ob_ H
 try dsimp only at H
 obtain ⟨⟨t_10, t_11, t_12⟩, A_8, H⟩ := ob_ H
 try dsimp only at H
 by_cases c_1 : t_3 = 0
 rotate_left
 focus
  rw [if_neg c_1] at H
  obtain ⟨c_2, c_3⟩ := bn_ c_1
  simp only [Option.some.injEq, Prod.mk.injEq] at H
  obtain ⟨rfl, rfl, rfl, rfl, rfl, rfl⟩ := H
  have L0_ := trivial
 rotate_left
 focus
  rw [if_pos c_1] at H
  obtain ⟨c_2, c_3⟩ := be_ c_1
  clear c_1
  by_cases c_4 : t_6 = 0
  rotate_left
  focus
   rw [if_neg c_4] at H
   obtain ⟨c_5, c_6⟩ := bn_ c_4
   simp only [Option.some.injEq, Prod.mk.injEq] at H
   obtain ⟨rfl, rfl, rfl, rfl, rfl, rfl⟩ := H
   have L0_ := trivial
  rotate_left
  focus
   rw [if_pos c_4] at H
   obtain ⟨c_5, c_6⟩ := be_ c_4
   clear c_4
   by_cases c_7 : t_9 = true
   rotate_left
   focus
    replace c_7 := Bool.eq_false_iff.mpr c_7
    subst c_7
    rw [if_neg (show ¬ (false = true) by decide)] at H
    simp only [Option.some.injEq, Prod.mk.injEq] at H
    obtain ⟨rfl, rfl, rfl, rfl, rfl, rfl⟩ := H
    have L1_ := trivial
   rotate_left
   focus
    subst c_7
    rw [if_pos rfl] at H
    by_cases c_8 : t_12 = 0
    rotate_left
    focus
     rw [if_neg c_8] at H
     obtain ⟨c_9, c_10⟩ := bn_ c_8
     simp only [Option.some.injEq, Prod.mk.injEq] at H
     obtain ⟨rfl, rfl, rfl, rfl, rfl, rfl⟩ := H
     have L1_ := trivial
    rotate_left
    focus
     rw [if_pos c_8] at H
     obtain ⟨c_9, c_10⟩ := be_ c_8
     clear c_8
     obtain ⟨t_13, A_10, H⟩ := ob_ H
     try dsimp only at H
     by_cases c_11 : t_13 = 0
     rotate_left
     focus
      rw [if_neg c_11] at H
      obtain ⟨c_12, c_13⟩ := bn_ c_11
      simp only [Option.some.injEq, Prod.mk.injEq] at H
      obtain ⟨rfl, rfl, rfl, rfl, rfl, rfl⟩ := H
      have L2_ := trivial
     rotate_left
     rw [if_pos c_11] at H
     obtain ⟨c_12, c_13⟩ := be_ c_11
     clear c_11
     simp only [Option.some.injEq, Prod.mk.injEq] at H
     obtain ⟨rfl, rfl, rfl, rfl, rfl, rfl⟩ := H
     have L3_ := trivial
 all_goals
  go_enter Try.func54, Try.ntmps54
  first
  | (have _ := L0_
     go_wp2_with (first | ((with_reducible refine gd_ 2 ?_); refine bz_ 2 #[.int .u64 0, .int .u64 0, .slice none 0 0, .string (⟨#[]⟩ : ByteArray)] 48 ?_; intro gb_1 hg w_1 BK_1 hb; have GE_1 := a_ (bs_0 hg HB); replace HB := hB_ (bl_ HB) hb; clear hb hg) | ((with_reducible refine gk_ 43 ?_); refine gl_ (some 16) Try.func43 #[.string a0] ?_; (with_reducible refine (gafferref01_TakeNumber.calls _ _ _ _ _ _ A_2.out).mono ?_); rintro e w' ⟨rfl, ⟨nd, rfl⟩⟩; refine ⟨_, rfl, ?_⟩; (try (rw [drewN_self w_1]; generalize hq_ : World.drewN w_1 _ = w_1; have n_1 : Aside0 (w_1.heap[gb_1]? = some (.cells #[.int .u64 0, .int .u64 0, .slice none 0 0, .string (⟨#[]⟩ : ByteArray)] 48 (0, 0))) := ⟨by rw [← hq_]; exact (bk_ BK_1)⟩; have n_2 : Aside0 (Below w.heap.size w w_1) := ⟨by rw [← hq_]; exact (bl_1 HB GE_1)⟩; clear BK_1 HB hq_; have BK_1 := n_1; have HB := n_2; clear n_1 n_2))) | ((with_reducible refine gk_ 43 ?_); refine gl_ (some 22) Try.func43 #[.string t_2] ?_; (with_reducible refine (gafferref01_TakeNumber.calls _ _ _ _ _ _ A_4.out).mono ?_); rintro e w' ⟨rfl, ⟨nd, rfl⟩⟩; refine ⟨_, rfl, ?_⟩; (try (rw [drewN_self w_1]; generalize hq_ : World.drewN w_1 _ = w_1; have n_1 : Aside0 (w_1.heap[gb_1]? = some (.cells #[.int .u64 0, .int .u64 0, .slice none 0 0, .string (⟨#[]⟩ : ByteArray)] 48 (0, 0))) := ⟨by rw [← hq_]; exact (bk_ BK_1)⟩; have n_2 : Aside0 (Below w.heap.size w w_1) := ⟨by rw [← hq_]; exact (bl_1 HB GE_1)⟩; clear BK_1 HB hq_; have BK_1 := n_1; have HB := n_2; clear n_1 n_2))) | ((with_reducible refine gk_ 89 ?_); refine gl_ (some 28) Try.func89 #[.string t_5] ?_; (with_reducible refine (gafferref03_TakeInts.calls _ _ _ _ _ _ A_6.out).mono ?_); rintro e w_2 ⟨v_1, rfl, ho_1, hb⟩; refine ⟨_, rfl, ?_⟩; have HO_1 := a_ (Kd.R_lower ho_1 (below_size (bl_1 HB GE_1))); replace BK_1 := bB_ BK_1 hb; replace HB := hB_ (bl_1 HB GE_1) hb; (try clear hb); (try clear ho_1)) | ((with_reducible refine gk_ 90 ?_); refine gl_ (some 34) Try.func90 #[.string t_8] ?_; (with_reducible refine (gafferref01_TakeText.calls _ _ _ _ _ _ A_8.out).mono ?_); rintro e w' ⟨rfl, ⟨nd, rfl⟩⟩; refine ⟨_, rfl, ?_⟩; (try (rw [drewN_self w_2]; generalize hq_ : World.drewN w_2 _ = w_2; have n_1 : Aside0 (Kd.R (Kd.int .i64) 3 w_2 w.heap.size (fun _ => True) v_1 t_7) := ⟨by rw [← hq_]; exact (by refine rq_ ?_; exact HO_1.out)⟩; have n_2 : Aside0 (w_2.heap[gb_1]? = some (.cells #[.int .u64 0, .int .u64 0, .slice none 0 0, .string (⟨#[]⟩ : ByteArray)] 48 (0, 0))) := ⟨by rw [← hq_]; exact (bk_ BK_1)⟩; have n_3 : Aside0 (Below w.heap.size w w_2) := ⟨by rw [← hq_]; exact (bl_1 HB GE_1)⟩; clear HO_1 BK_1 HB hq_; have HO_1 := n_1; have BK_1 := n_2; have HB := n_3; clear n_1 n_2 n_3)); obtain ⟨Ao_1, co_1, eo_1⟩ := Kd.R_slice HO_1.out; subst eo_1) | ((with_reducible refine gd_ 13 ?_); refine bz_ 13 #[.int .u64 0, .int .u64 0, .slice none 0 0, .string (⟨#[]⟩ : ByteArray)] 48 ?_; intro gb_2 hg w_3 BK_2 hb; replace HO_1 := rb_ HO_1 hb; have GE_2 := a_ (bs_1 hg HB GE_1); replace HB := hB_ (bl_1 HB GE_1) hb; have NB_1 := nB_ hg BK_1; have NB_2 := nC_ hg BK_1; replace BK_1 := bB_ BK_1 hb; clear hb hg; have := NB_2.out; have := NB_1.out; obtain ⟨_, _, _, _, _, _, _, _⟩ := c4_ BK_2; obtain ⟨_, _, _, _, _, _, _, _⟩ := c4_ BK_1))
     refine bodyPost_ret (results_ctt rfl _ _ gb_1 48 #[.int .u64 0, .int .u64 0, .slice none 0 0, .string (⟨#[]⟩ : ByteArray)] (0, 0) _ rfl (bp_1 BK_1 NB_1) Try.underlying48 rfl (by kernel_rfl)) rfl ?_
     exact ⟨_, fz_, nl_, bl_2 HB GE_1 GE_2⟩)
  | (have _ := L1_
     go_wp2_with (first | ((with_reducible refine gd_ 2 ?_); refine bz_ 2 #[.int .u64 0, .int .u64 0, .slice none 0 0, .string (⟨#[]⟩ : ByteArray)] 48 ?_; intro gb_1 hg w_1 BK_1 hb; have GE_1 := a_ (bs_0 hg HB); replace HB := hB_ (bl_ HB) hb; clear hb hg) | ((with_reducible refine gk_ 43 ?_); refine gl_ (some 16) Try.func43 #[.string a0] ?_; (with_reducible refine (gafferref01_TakeNumber.calls _ _ _ _ _ _ A_2.out).mono ?_); rintro e w' ⟨rfl, ⟨nd, rfl⟩⟩; refine ⟨_, rfl, ?_⟩; (try (rw [drewN_self w_1]; generalize hq_ : World.drewN w_1 _ = w_1; have n_1 : Aside0 (w_1.heap[gb_1]? = some (.cells #[.int .u64 0, .int .u64 0, .slice none 0 0, .string (⟨#[]⟩ : ByteArray)] 48 (0, 0))) := ⟨by rw [← hq_]; exact (bk_ BK_1)⟩; have n_2 : Aside0 (Below w.heap.size w w_1) := ⟨by rw [← hq_]; exact (bl_1 HB GE_1)⟩; clear BK_1 HB hq_; have BK_1 := n_1; have HB := n_2; clear n_1 n_2))) | ((with_reducible refine gk_ 43 ?_); refine gl_ (some 22) Try.func43 #[.string t_2] ?_; (with_reducible refine (gafferref01_TakeNumber.calls _ _ _ _ _ _ A_4.out).mono ?_); rintro e w' ⟨rfl, ⟨nd, rfl⟩⟩; refine ⟨_, rfl, ?_⟩; (try (rw [drewN_self w_1]; generalize hq_ : World.drewN w_1 _ = w_1; have n_1 : Aside0 (w_1.heap[gb_1]? = some (.cells #[.int .u64 0, .int .u64 0, .slice none 0 0, .string (⟨#[]⟩ : ByteArray)] 48 (0, 0))) := ⟨by rw [← hq_]; exact (bk_ BK_1)⟩; have n_2 : Aside0 (Below w.heap.size w w_1) := ⟨by rw [← hq_]; exact (bl_1 HB GE_1)⟩; clear BK_1 HB hq_; have BK_1 := n_1; have HB := n_2; clear n_1 n_2))) | ((with_reducible refine gk_ 89 ?_); refine gl_ (some 28) Try.func89 #[.string t_5] ?_; (with_reducible refine (gafferref03_TakeInts.calls _ _ _ _ _ _ A_6.out).mono ?_); rintro e w_2 ⟨v_1, rfl, ho_1, hb⟩; refine ⟨_, rfl, ?_⟩; have HO_1 := a_ (Kd.R_lower ho_1 (below_size (bl_1 HB GE_1))); replace BK_1 := bB_ BK_1 hb; replace HB := hB_ (bl_1 HB GE_1) hb; (try clear hb); (try clear ho_1)) | ((with_reducible refine gk_ 90 ?_); refine gl_ (some 34) Try.func90 #[.string t_8] ?_; (with_reducible refine (gafferref01_TakeText.calls _ _ _ _ _ _ A_8.out).mono ?_); rintro e w' ⟨rfl, ⟨nd, rfl⟩⟩; refine ⟨_, rfl, ?_⟩; (try (rw [drewN_self w_2]; generalize hq_ : World.drewN w_2 _ = w_2; have n_1 : Aside0 (Kd.R (Kd.int .i64) 3 w_2 w.heap.size (fun _ => True) v_1 t_7) := ⟨by rw [← hq_]; exact (by refine rq_ ?_; exact HO_1.out)⟩; have n_2 : Aside0 (w_2.heap[gb_1]? = some (.cells #[.int .u64 0, .int .u64 0, .slice none 0 0, .string (⟨#[]⟩ : ByteArray)] 48 (0, 0))) := ⟨by rw [← hq_]; exact (bk_ BK_1)⟩; have n_3 : Aside0 (Below w.heap.size w w_2) := ⟨by rw [← hq_]; exact (bl_1 HB GE_1)⟩; clear HO_1 BK_1 HB hq_; have HO_1 := n_1; have BK_1 := n_2; have HB := n_3; clear n_1 n_2 n_3)); obtain ⟨Ao_1, co_1, eo_1⟩ := Kd.R_slice HO_1.out; subst eo_1) | ((with_reducible refine gd_ 13 ?_); refine bz_ 13 #[.int .u64 0, .int .u64 0, .slice none 0 0, .string (⟨#[]⟩ : ByteArray)] 48 ?_; intro gb_2 hg w_3 BK_2 hb; replace HO_1 := rb_ HO_1 hb; have GE_2 := a_ (bs_1 hg HB GE_1); replace HB := hB_ (bl_1 HB GE_1) hb; have NB_1 := nB_ hg BK_1; have NB_2 := nC_ hg BK_1; replace BK_1 := bB_ BK_1 hb; clear hb hg; have := NB_2.out; have := NB_1.out; obtain ⟨_, _, _, _, _, _, _, _⟩ := c4_ BK_2; obtain ⟨_, _, _, _, _, _, _, _⟩ := c4_ BK_1))
     refine bodyPost_ret (results_ctt rfl _ _ gb_1 48 #[.int .u64 0, .int .u64 0, .slice none 0 0, .string (⟨#[]⟩ : ByteArray)] (0, 0) _ rfl (bp_1 BK_1 NB_1) Try.underlying48 rfl (by kernel_rfl)) rfl ?_
     exact ⟨_, fz_, nl_, bl_2 HB GE_1 GE_2⟩)
  | (have _ := L2_
     go_wp2_with (first | ((with_reducible refine gd_ 2 ?_); refine bz_ 2 #[.int .u64 0, .int .u64 0, .slice none 0 0, .string (⟨#[]⟩ : ByteArray)] 48 ?_; intro gb_1 hg w_1 BK_1 hb; have GE_1 := a_ (bs_0 hg HB); replace HB := hB_ (bl_ HB) hb; clear hb hg) | ((with_reducible refine gk_ 43 ?_); refine gl_ (some 16) Try.func43 #[.string a0] ?_; (with_reducible refine (gafferref01_TakeNumber.calls _ _ _ _ _ _ A_2.out).mono ?_); rintro e w' ⟨rfl, ⟨nd, rfl⟩⟩; refine ⟨_, rfl, ?_⟩; (try (rw [drewN_self w_1]; generalize hq_ : World.drewN w_1 _ = w_1; have n_1 : Aside0 (w_1.heap[gb_1]? = some (.cells #[.int .u64 0, .int .u64 0, .slice none 0 0, .string (⟨#[]⟩ : ByteArray)] 48 (0, 0))) := ⟨by rw [← hq_]; exact (bk_ BK_1)⟩; have n_2 : Aside0 (Below w.heap.size w w_1) := ⟨by rw [← hq_]; exact (bl_1 HB GE_1)⟩; clear BK_1 HB hq_; have BK_1 := n_1; have HB := n_2; clear n_1 n_2))) | ((with_reducible refine gk_ 43 ?_); refine gl_ (some 22) Try.func43 #[.string t_2] ?_; (with_reducible refine (gafferref01_TakeNumber.calls _ _ _ _ _ _ A_4.out).mono ?_); rintro e w' ⟨rfl, ⟨nd, rfl⟩⟩; refine ⟨_, rfl, ?_⟩; (try (rw [drewN_self w_1]; generalize hq_ : World.drewN w_1 _ = w_1; have n_1 : Aside0 (w_1.heap[gb_1]? = some (.cells #[.int .u64 0, .int .u64 0, .slice none 0 0, .string (⟨#[]⟩ : ByteArray)] 48 (0, 0))) := ⟨by rw [← hq_]; exact (bk_ BK_1)⟩; have n_2 : Aside0 (Below w.heap.size w w_1) := ⟨by rw [← hq_]; exact (bl_1 HB GE_1)⟩; clear BK_1 HB hq_; have BK_1 := n_1; have HB := n_2; clear n_1 n_2))) | ((with_reducible refine gk_ 89 ?_); refine gl_ (some 28) Try.func89 #[.string t_5] ?_; (with_reducible refine (gafferref03_TakeInts.calls _ _ _ _ _ _ A_6.out).mono ?_); rintro e w_2 ⟨v_1, rfl, ho_1, hb⟩; refine ⟨_, rfl, ?_⟩; have HO_1 := a_ (Kd.R_lower ho_1 (below_size (bl_1 HB GE_1))); replace BK_1 := bB_ BK_1 hb; replace HB := hB_ (bl_1 HB GE_1) hb; (try clear hb); (try clear ho_1)) | ((with_reducible refine gk_ 90 ?_); refine gl_ (some 34) Try.func90 #[.string t_8] ?_; (with_reducible refine (gafferref01_TakeText.calls _ _ _ _ _ _ A_8.out).mono ?_); rintro e w' ⟨rfl, ⟨nd, rfl⟩⟩; refine ⟨_, rfl, ?_⟩; (try (rw [drewN_self w_2]; generalize hq_ : World.drewN w_2 _ = w_2; have n_1 : Aside0 (Kd.R (Kd.int .i64) 3 w_2 w.heap.size (fun _ => True) v_1 t_7) := ⟨by rw [← hq_]; exact (by refine rq_ ?_; exact HO_1.out)⟩; have n_2 : Aside0 (w_2.heap[gb_1]? = some (.cells #[.int .u64 0, .int .u64 0, .slice none 0 0, .string (⟨#[]⟩ : ByteArray)] 48 (0, 0))) := ⟨by rw [← hq_]; exact (bk_ BK_1)⟩; have n_3 : Aside0 (Below w.heap.size w w_2) := ⟨by rw [← hq_]; exact (bl_1 HB GE_1)⟩; clear HO_1 BK_1 HB hq_; have HO_1 := n_1; have BK_1 := n_2; have HB := n_3; clear n_1 n_2 n_3)); obtain ⟨Ao_1, co_1, eo_1⟩ := Kd.R_slice HO_1.out; subst eo_1) | ((with_reducible refine gd_ 13 ?_); refine bz_ 13 #[.int .u64 0, .int .u64 0, .slice none 0 0, .string (⟨#[]⟩ : ByteArray)] 48 ?_; intro gb_2 hg w_3 BK_2 hb; replace HO_1 := rb_ HO_1 hb; have GE_2 := a_ (bs_1 hg HB GE_1); replace HB := hB_ (bl_1 HB GE_1) hb; have NB_1 := nB_ hg BK_1; have NB_2 := nC_ hg BK_1; replace BK_1 := bB_ BK_1 hb; clear hb hg; have := NB_2.out; have := NB_1.out; obtain ⟨_, _, _, _, _, _, _, _⟩ := c4_ BK_2) | (go_at_call 32; (with_reducible refine (gafferref05_Check.calls _ _ _ _ _ _ _ _ _ ?side1 ?side2 A_10.out).mono ?_); (case side1 => refine (Kd.R_reads' (e := 3) (base := w.heap.size) (ok := fun k_ => True) (n := t_7.length) (c := co_1) ?_).2.2; exact (by refine rq_ ?_; exact (rf1_ HO_1 BK_2))); (case side2 => exact (Kd.R_reads' HO_1.out).2.1); rintro e w_4 ⟨rfl, hb⟩; replace HO_1 := a_ (Kd.R_below (by refine rq_ ?_; exact (rf1_ HO_1 BK_2)) hb); replace BK_1 := bw_1 #[.int .u64 0, .int .u64 0, .slice none 0 0, .string (⟨#[]⟩ : ByteArray)] BK_1 NB_1 hb; replace BK_2 := bw_0 #[.int .u64 t_1, .int .u64 t_4, .slice Ao_1 t_7.length co_1, .string t_10] BK_2 hb; replace HB := hB_ (bl_2 HB GE_1 GE_2) hb; (try clear hb); obtain ⟨_, _, _, _, _, _, _, _⟩ := c4_ BK_1))
     refine bodyPost_ret (results_ctt rfl _ _ gb_1 48 #[.int .u64 0, .int .u64 0, .slice none 0 0, .string (⟨#[]⟩ : ByteArray)] (0, 0) _ rfl (bp_0 BK_1) Try.underlying48 rfl (by kernel_rfl)) rfl ?_
     exact ⟨_, fz_, nl_, bl_2 HB GE_1 GE_2⟩)
  | (have _ := L3_
     go_wp2_with (first | ((with_reducible refine gd_ 2 ?_); refine bz_ 2 #[.int .u64 0, .int .u64 0, .slice none 0 0, .string (⟨#[]⟩ : ByteArray)] 48 ?_; intro gb_1 hg w_1 BK_1 hb; have GE_1 := a_ (bs_0 hg HB); replace HB := hB_ (bl_ HB) hb; clear hb hg) | ((with_reducible refine gk_ 43 ?_); refine gl_ (some 16) Try.func43 #[.string a0] ?_; (with_reducible refine (gafferref01_TakeNumber.calls _ _ _ _ _ _ A_2.out).mono ?_); rintro e w' ⟨rfl, ⟨nd, rfl⟩⟩; refine ⟨_, rfl, ?_⟩; (try (rw [drewN_self w_1]; generalize hq_ : World.drewN w_1 _ = w_1; have n_1 : Aside0 (w_1.heap[gb_1]? = some (.cells #[.int .u64 0, .int .u64 0, .slice none 0 0, .string (⟨#[]⟩ : ByteArray)] 48 (0, 0))) := ⟨by rw [← hq_]; exact (bk_ BK_1)⟩; have n_2 : Aside0 (Below w.heap.size w w_1) := ⟨by rw [← hq_]; exact (bl_1 HB GE_1)⟩; clear BK_1 HB hq_; have BK_1 := n_1; have HB := n_2; clear n_1 n_2))) | ((with_reducible refine gk_ 43 ?_); refine gl_ (some 22) Try.func43 #[.string t_2] ?_; (with_reducible refine (gafferref01_TakeNumber.calls _ _ _ _ _ _ A_4.out).mono ?_); rintro e w' ⟨rfl, ⟨nd, rfl⟩⟩; refine ⟨_, rfl, ?_⟩; (try (rw [drewN_self w_1]; generalize hq_ : World.drewN w_1 _ = w_1; have n_1 : Aside0 (w_1.heap[gb_1]? = some (.cells #[.int .u64 0, .int .u64 0, .slice none 0 0, .string (⟨#[]⟩ : ByteArray)] 48 (0, 0))) := ⟨by rw [← hq_]; exact (bk_ BK_1)⟩; have n_2 : Aside0 (Below w.heap.size w w_1) := ⟨by rw [← hq_]; exact (bl_1 HB GE_1)⟩; clear BK_1 HB hq_; have BK_1 := n_1; have HB := n_2; clear n_1 n_2))) | ((with_reducible refine gk_ 89 ?_); refine gl_ (some 28) Try.func89 #[.string t_5] ?_; (with_reducible refine (gafferref03_TakeInts.calls _ _ _ _ _ _ A_6.out).mono ?_); rintro e w_2 ⟨v_1, rfl, ho_1, hb⟩; refine ⟨_, rfl, ?_⟩; have HO_1 := a_ (Kd.R_lower ho_1 (below_size (bl_1 HB GE_1))); replace BK_1 := bB_ BK_1 hb; replace HB := hB_ (bl_1 HB GE_1) hb; (try clear hb); (try clear ho_1)) | ((with_reducible refine gk_ 90 ?_); refine gl_ (some 34) Try.func90 #[.string t_8] ?_; (with_reducible refine (gafferref01_TakeText.calls _ _ _ _ _ _ A_8.out).mono ?_); rintro e w' ⟨rfl, ⟨nd, rfl⟩⟩; refine ⟨_, rfl, ?_⟩; (try (rw [drewN_self w_2]; generalize hq_ : World.drewN w_2 _ = w_2; have n_1 : Aside0 (Kd.R (Kd.int .i64) 3 w_2 w.heap.size (fun _ => True) v_1 t_7) := ⟨by rw [← hq_]; exact (by refine rq_ ?_; exact HO_1.out)⟩; have n_2 : Aside0 (w_2.heap[gb_1]? = some (.cells #[.int .u64 0, .int .u64 0, .slice none 0 0, .string (⟨#[]⟩ : ByteArray)] 48 (0, 0))) := ⟨by rw [← hq_]; exact (bk_ BK_1)⟩; have n_3 : Aside0 (Below w.heap.size w w_2) := ⟨by rw [← hq_]; exact (bl_1 HB GE_1)⟩; clear HO_1 BK_1 HB hq_; have HO_1 := n_1; have BK_1 := n_2; have HB := n_3; clear n_1 n_2 n_3)); obtain ⟨Ao_1, co_1, eo_1⟩ := Kd.R_slice HO_1.out; subst eo_1) | ((with_reducible refine gd_ 13 ?_); refine bz_ 13 #[.int .u64 0, .int .u64 0, .slice none 0 0, .string (⟨#[]⟩ : ByteArray)] 48 ?_; intro gb_2 hg w_3 BK_2 hb; replace HO_1 := rb_ HO_1 hb; have GE_2 := a_ (bs_1 hg HB GE_1); replace HB := hB_ (bl_1 HB GE_1) hb; have NB_1 := nB_ hg BK_1; have NB_2 := nC_ hg BK_1; replace BK_1 := bB_ BK_1 hb; clear hb hg; have := NB_2.out; have := NB_1.out; obtain ⟨_, _, _, _, _, _, _, _⟩ := c4_ BK_2) | (go_at_call 32; (with_reducible refine (gafferref05_Check.calls _ _ _ _ _ _ _ _ _ ?side1 ?side2 A_10.out).mono ?_); (case side1 => refine (Kd.R_reads' (e := 3) (base := w.heap.size) (ok := fun k_ => True) (n := t_7.length) (c := co_1) ?_).2.2; exact (by refine rq_ ?_; exact (rf1_ HO_1 BK_2))); (case side2 => exact (Kd.R_reads' HO_1.out).2.1); rintro e w_4 ⟨rfl, hb⟩; replace HO_1 := a_ (Kd.R_below (by refine rq_ ?_; exact (rf1_ HO_1 BK_2)) hb); replace BK_1 := bw_1 #[.int .u64 0, .int .u64 0, .slice none 0 0, .string (⟨#[]⟩ : ByteArray)] BK_1 NB_1 hb; replace BK_2 := bw_0 #[.int .u64 t_1, .int .u64 t_4, .slice Ao_1 t_7.length co_1, .string t_10] BK_2 hb; replace HB := hB_ (bl_2 HB GE_1 GE_2) hb; (try clear hb); obtain ⟨_, _, _, _, _, _, _, _⟩ := c4_ BK_2; obtain ⟨_, _, _, _, _, _, _, _⟩ := c4_ BK_1))
     refine bodyPost_ret (results_ctt rfl _ _ gb_1 48 #[.int .u64 t_1, .int .u64 t_4, .slice Ao_1 t_7.length co_1, .string t_10] (0, 0) _ rfl (bp_0 BK_1) Try.underlying48 rfl (by kernel_rfl)) rfl ?_
     exact ⟨_, fz_, by refine rq_ ?_; exact rf1_ HO_1 BK_1, bl_2 HB GE_1 GE_2⟩)

def gafferref05_Decode.f (k : Nat) (a0 : ByteArray) : Option (Int × Int × List Int × ByteArray × Int) := (gafferref05_Take.f k a0).bind fun bt432 => (if bt432.2.2.2.2.2 = true then (if bt432.2.2.2.2.1.toList = ([] : List UInt8) then (some (bt432.1, bt432.2.1, bt432.2.2.1, bt432.2.2.2.1, 0)) else (some (0, 0, ([] : List Int), (⟨#[]⟩ : ByteArray), 4))) else (some (0, 0, ([] : List Int), (⟨#[]⟩ : ByteArray), 4)))
theorem gafferref05_Decode.mono : ∀ a0 k, LeO (gafferref05_Decode.f k a0) (gafferref05_Decode.f (k + 1) a0) := by
 intro a0 k
 unfold gafferref05_Decode.f
 repeat' with_reducible first | apply gafferref05_Take.mono | apply LeO.refl | apply LeO.none | apply LeO.ite | refine LeO.bind ?_ (fun _ => ?_)
theorem gafferref05_Decode.calls (k : Nat) (a0 : ByteArray) (r1 : Int) (r2 : Int) (r3 : List Int) (r4 : ByteArray) (r5 : Int) (w : World) (h : gafferref05_Decode.f k a0 = some (r1, r2, r3, r4, r5)) :
  Calls Try.prog 28 #[.string a0] w fun e w' => ∃ v2_ : Value, e = .returned (.tuple #[.agg #[.int .u64 r1, .int .u64 r2, v2_, .string r4], .int .i64 r5]) ∧ Kd.R (Kd.int .i64) 3 w' w.heap.size (fun _ => True) v2_ r3 ∧ Below w.heap.size w w' := by
 have hu_1 := Try.underlying48
 have HB := a_ (Below.refl w.heap.size w)
 have H := h
 unfold gafferref05_Decode.f at H
 clear h
 obtain ⟨⟨t_1, t_2, t_3, t_4, t_5, t_6⟩, A_2, H⟩ := ob_ H
 try dsimp only at H
 by_cases c_1 : t_6 = true
 rotate_left
 focus
  replace c_1 := Bool.eq_false_iff.mpr c_1
  subst c_1
  rw [if_neg (show ¬ (false = true) by decide)] at H
  obtain ⟨rfl, rfl, rfl, rfl, rfl⟩ := so5_ H
  have L0_ := trivial
 rotate_left
 focus
  subst c_1
  rw [if_pos rfl] at H
  by_cases c_2 : t_5.toList = ([] : List UInt8)
  rotate_left
  focus
   rw [if_neg c_2] at H
   obtain ⟨c_3, c_4⟩ := bn_ c_2
   obtain ⟨rfl, rfl, rfl, rfl, rfl⟩ := so5_ H
   have L0_ := trivial
  rotate_left
  rw [if_pos c_2] at H
  obtain ⟨c_3, c_4⟩ := be_ c_2
  clear c_2
  obtain ⟨rfl, rfl, rfl, rfl, rfl⟩ := so5_ H
  have L1_ := trivial
 all_goals
  go_enter Try.func28, Try.ntmps28
  go_wp2_with (first | ((with_reducible refine gd_ 2 ?_); refine bz_ 2 #[.int .u64 0, .int .u64 0, .slice none 0 0, .string (⟨#[]⟩ : ByteArray)] 48 ?_; intro gb_1 hg w_1 BK_1 hb; have GE_1 := a_ (bs_0 hg HB); replace HB := hB_ (bl_ HB) hb; clear hb hg) | ((with_reducible refine gk_ 54 ?_); refine gl_ (some 9) Try.func54 #[.string a0] ?_; (with_reducible refine (gafferref05_Take.calls _ _ _ _ _ _ _ _ _ A_2.out).mono ?_); rintro e w_2 ⟨v_1, rfl, ho_1, hb⟩; refine ⟨_, rfl, ?_⟩; have HO_1 := a_ (Kd.R_lower ho_1 (below_size (bl_1 HB GE_1))); replace BK_1 := bB_ BK_1 hb; replace HB := hB_ (bl_1 HB GE_1) hb; (try clear hb); (try clear ho_1)) | ((with_reducible refine gd_ 4 ?_); refine bz_ 4 #[.int .u64 0, .int .u64 0, .slice none 0 0, .string (⟨#[]⟩ : ByteArray)] 48 ?_; intro gb_2 hg w_3 BK_2 hb; replace HO_1 := rb_ HO_1 hb; have GE_2 := a_ (bs_1 hg HB GE_1); replace HB := hB_ (bl_1 HB GE_1) hb; have NB_1 := nB_ hg BK_1; have NB_2 := nC_ hg BK_1; replace BK_1 := bB_ BK_1 hb; clear hb hg; have := NB_2.out; have := NB_1.out; obtain ⟨_, _, _, _, _, _, _, _⟩ := c4_ BK_2; obtain ⟨Ao_1, co_1, eo_1⟩ := Kd.R_slice HO_1.out; subst eo_1; obtain ⟨_, _, _, _, _, _, _, _⟩ := c4_ BK_1))
  first
  | (have _ := L0_
     refine bodyPost_ret (results_ct rfl _ _ gb_1 48 #[.int .u64 0, .int .u64 0, .slice none 0 0, .string (⟨#[]⟩ : ByteArray)] (0, 0) _ rfl (bp_1 BK_1 NB_1) Try.underlying48 rfl (by kernel_rfl)) rfl ?_
     exact ⟨_, fz_, nl_, bl_2 HB GE_1 GE_2⟩)
  | (have _ := L1_
     refine bodyPost_ret (results_ct rfl _ _ gb_1 48 #[.int .u64 t_1, .int .u64 t_2, .slice Ao_1 t_3.length co_1, .string t_4] (0, 0) _ rfl (bp_1 BK_1 NB_1) Try.underlying48 rfl (by kernel_rfl)) rfl ?_
     exact ⟨_, fz_, by refine rq_ ?_; exact rf2_ HO_1 BK_2 BK_1, bl_2 HB GE_1 GE_2⟩)

def gafferref02_Check.l0 : Nat → List (S71) → Int → Int → List (S71) → Bool → Int → Option (Int)
 | 0, _, _, _, _, _, _ => none
 | k + 1, x10, x11, x12, x442000, x442001, x442002 => if x12 < x11 then (if 0 ≤ x12 then (if x12 < (x10.length : Int) then (if ((rd_T71 x10 x12).f2) < 0 then (some 10) else (if ((rd_T71 x10 x12).f2) > (((rd_T71 x10 x12).f1).size : Int) then (some 10) else (if x12 > 0 then (if 0 ≤ (wrap64 (x12 - 1)) then (if (wrap64 (x12 - 1)) < (x442000.length : Int) then (if ((Op.bytesLess (((rd_T71 x442000 (wrap64 (x12 - 1))).f0).toList) (((rd_T71 x10 x12).f0).toList)) = true) then (gafferref02_Check.l0 k x10 x11 (wrap64 (x12 + 1)) x442000 x442001 x442002) else (some 10)) else (none)) else (none)) else (gafferref02_Check.l0 k x10 x11 (wrap64 (x12 + 1)) x442000 x442001 x442002)))) else (none)) else (none)) else (some 0)
def gafferref02_Check.f (k : Nat) (l0_0 : List (S71)) (a0_1 : Bool) (a0_2 : Int) : Option (Int) := if (l0_0.length : Int) > 4096 then (some 10) else (gafferref02_Check.l0 k l0_0 (l0_0.length : Int) 0 l0_0 a0_1 a0_2)
theorem gafferref02_Check.mono_l : ∀ k, (∀ y0 y1 y2 y3 y4 y5, LeO (gafferref02_Check.l0 k y0 y1 y2 y3 y4 y5) (gafferref02_Check.l0 (k + 1) y0 y1 y2 y3 y4 y5))
 | 0 => fun _ _ _ _ _ _ r h => by simp [gafferref02_Check.l0] at h
 | k + 1 => by
  have ih0 := gafferref02_Check.mono_l k
  ·intro y0 y1 y2 y3 y4 y5
   unfold gafferref02_Check.l0
   repeat' with_reducible first | apply ih0 | apply LeO.refl | apply LeO.none | apply LeO.ite | refine LeO.bind ?_ (fun _ => ?_)
theorem gafferref02_Check.mono : ∀ a0 a1 a2 k, LeO (gafferref02_Check.f k a0 a1 a2) (gafferref02_Check.f (k + 1) a0 a1 a2) := by
 intro a0 a1 a2 k
 have ih0 := gafferref02_Check.mono_l k
 unfold gafferref02_Check.f
 repeat' with_reducible first | apply ih0 | apply LeO.refl | apply LeO.none | apply LeO.ite | refine LeO.bind ?_ (fun _ => ?_)
theorem gafferref02_Check.calls (k : Nat) (A0_0 : Option Addr) (c0_0 : Nat) (l0_0 : List (S71)) (a0_1 : Bool) (a0_2 : Int) (r : Int) (w : World) (hr0_0 : Kd.C k71 w A0_0 l0_0.length l0_0) (hc0_0 : l0_0.length ≤ c0_0) (h : gafferref02_Check.f k l0_0 a0_1 a0_2 = some r) :
  Calls Try.prog 46 #[.agg #[.slice A0_0 l0_0.length c0_0, .bool a0_1, .int .i64 a0_2]] w fun e w' => e = .returned (.int .i64 r) ∧ Below w.heap.size w w' := by
 have hu_1 := Try.underlying24
 have hu_2 := Try.underlying71
 have HR_1 := a_ hr0_0
 have HC_1 := a_ hc0_0
 clear hr0_0 hc0_0
 have HB := a_ (Below.refl w.heap.size w)
 have H := h
 unfold gafferref02_Check.f at H
 clear h
 by_cases c_1 : (l0_0.length : Int) > 4096
 focus
  rw [if_pos c_1] at H
  have c_2 : decide (4096 < (l0_0.length : Int)) = true := decide_eq_true c_1
  have c_3 : decide (4096 < l0_0.length) = true := decide_eq_true (by omega)
  clear c_1
  obtain rfl := Option.some.inj H
  have L0_ := trivial
 rotate_left
 rw [if_neg c_1] at H
 have c_2 : decide (4096 < (l0_0.length : Int)) = false := decide_eq_false c_1
 have c_3 : decide (4096 < l0_0.length) = false := decide_eq_false (by omega)
 clear c_1
 have H' := a_ H
 clear H
 have L1_ := trivial
 all_goals
  go_enter Try.func46, Try.ntmps46
  go_wp2_with (first | ((with_reducible refine gd_ 1 ?_); (try (refine gate_guard (by rfl) ?_; dsimp only)); refine bz_ 1 #[.slice A0_0 l0_0.length c0_0, .bool a0_1, .int .i64 a0_2] 24 ?_; intro gb_1 hg w_1 BK_1 hb; have GE_1 := a_ (bs_0 hg HB); replace HB := hB_ (bl_ HB) hb; clear hb hg; obtain ⟨_, _, _, _, _, _⟩ := c3_ BK_1) | go_quiet (first | ((with_reducible refine gd_ 1 ?_); (try (refine gate_guard (by rfl) ?_; dsimp only)); refine bz_ 1 #[.slice A0_0 l0_0.length c0_0, .bool a0_1, .int .i64 a0_2] 24 ?_; intro gb_1 hg w_1 BK_1 hb; have GE_1 := a_ (bs_0 hg HB); replace HB := hB_ (bl_ HB) hb; clear hb hg; obtain ⟨_, _, _, _, _, _⟩ := c3_ BK_1)))
  first
  | (have _ := L0_
     go_ret
     exact ⟨fz_, bl_1 HB GE_1⟩)
  | (have _ := L1_
     go_loopg [12] k (fun kq v12 w' => ∃ (x12_1 : Int), v12 = .int .i64 x12_1 ∧ Aside0 (gafferref02_Check.l0 kq l0_0 (l0_0.length : Int) x12_1 l0_0 a0_1 a0_2 = some r) ∧ Aside0 (kq ≤ k) ∧ Aside0 (w'.heap[gb_1]? = some (.cells #[(.slice A0_0 l0_0.length c0_0), .bool a0_1, .int .i64 a0_2] 24 (0, 0))) ∧ Aside0 (Below w.heap.size w w'))
     case atStart => exact ⟨(0), fz_, H', ⟨Nat.le_refl _⟩, ⟨bk_ BK_1⟩, ⟨bl_1 HB GE_1⟩⟩
     case round =>
      clear H'
      try clear c_1
      try clear c_2
      try clear c_3
      obtain ⟨x_1, rfl, HA, HK_1, BK_1, HB⟩ := hrel
      cases gk with
      | zero => exact absurd HA.out (by simp [gafferref02_Check.l0])
      | succ k1 =>
       have H := HA.out
       clear HA
       simp only [gafferref02_Check.l0] at H
       by_cases c_4 : x_1 < (l0_0.length : Int)
       rotate_left
       ·rw [if_neg c_4] at H
        have c_5 : decide (x_1 < (l0_0.length : Int)) = false := decide_eq_false c_4
        clear c_4
        obtain rfl := Option.some.inj H
        go_wp2
        repeat (go_quiet (fail); try go_wp2)
        go_ret
        exact ⟨fz_, bl_1 HB GE_1⟩
       rw [if_pos c_4] at H
       have c_5 : decide (x_1 < (l0_0.length : Int)) = true := decide_eq_true c_4
       clear c_4
       replace H := ip_ H
       obtain ⟨-, c_7, H⟩ := H
       replace H := ip_ H
       obtain ⟨-, c_9, H⟩ := H
       by_cases c_10 : ((rd_T71 l0_0 x_1).f2) < 0
       ·rw [if_pos c_10] at H
        have c_11 : decide (((rd_T71 l0_0 x_1).f2) < 0) = true := decide_eq_true c_10
        clear c_10
        obtain rfl := Option.some.inj H
        have p_1 : 0 ≤ (x_1 : Int) := od_
        have q_1 : x_1 < (l0_0.length : Int) := od_
        obtain ⟨ad_1, e_1, hx_1, hx_2, hx_3⟩ := at_T71 HR_1.out x_1 p_1 q_1
        cases e_1
        replace hx_1 := hc_ HB hx_1
        replace hx_2 := hc_ HB hx_2
        replace hx_3 := hc_ HB hx_3
        replace p_1 := eq_true p_1
        replace q_1 := eq_true q_1
        go_wp2_with (first | ((with_reducible refine gd_ 4 ?_); (try (refine gate_guard (by rfl) ?_; dsimp only)); refine bz_ 4 #[.string (⟨#[]⟩ : ByteArray), .string (⟨#[]⟩ : ByteArray), .int .i64 0] 71 ?_; intro gb_2 hg w_2 BK_2 hb; have GW_1 := a_ (bs_1 hg HB GE_1); have GE_2 := a_ (bs_1 hg HB GE_1); replace HB := hB_ (bl_1 HB GE_1) hb; have NB_1 := nB_ hg BK_1; have NB_2 := nC_ hg BK_1; replace BK_1 := bB_ BK_1 hb; clear hb hg; have := NB_2.out; have := NB_1.out; obtain ⟨_, _, _, _, _, _⟩ := c3_ BK_2) | go_quiet (first | ((with_reducible refine gd_ 4 ?_); (try (refine gate_guard (by rfl) ?_; dsimp only)); refine bz_ 4 #[.string (⟨#[]⟩ : ByteArray), .string (⟨#[]⟩ : ByteArray), .int .i64 0] 71 ?_; intro gb_2 hg w_2 BK_2 hb; have GW_1 := a_ (bs_1 hg HB GE_1); have GE_2 := a_ (bs_1 hg HB GE_1); replace HB := hB_ (bl_1 HB GE_1) hb; have NB_1 := nB_ hg BK_1; have NB_2 := nC_ hg BK_1; replace BK_1 := bB_ BK_1 hb; clear hb hg; have := NB_2.out; have := NB_1.out; obtain ⟨_, _, _, _, _, _⟩ := c3_ BK_2)))
        go_ret
        exact ⟨fz_, bl_2 HB GE_1 GE_2⟩
       rw [if_neg c_10] at H
       have c_11 : decide (((rd_T71 l0_0 x_1).f2) < 0) = false := decide_eq_false c_10
       clear c_10
       by_cases c_12 : ((rd_T71 l0_0 x_1).f2) > (((rd_T71 l0_0 x_1).f1).size : Int)
       ·rw [if_pos c_12] at H
        have c_13 : decide ((((rd_T71 l0_0 x_1).f1).size : Int) < ((rd_T71 l0_0 x_1).f2)) = true := decide_eq_true c_12
        clear c_12
        obtain rfl := Option.some.inj H
        have p_1 : 0 ≤ (x_1 : Int) := od_
        have q_1 : x_1 < (l0_0.length : Int) := od_
        obtain ⟨ad_1, e_1, hx_1, hx_2, hx_3⟩ := at_T71 HR_1.out x_1 p_1 q_1
        cases e_1
        replace hx_1 := hc_ HB hx_1
        replace hx_2 := hc_ HB hx_2
        replace hx_3 := hc_ HB hx_3
        replace p_1 := eq_true p_1
        replace q_1 := eq_true q_1
        go_wp2_with (first | ((with_reducible refine gd_ 4 ?_); (try (refine gate_guard (by rfl) ?_; dsimp only)); refine bz_ 4 #[.string (⟨#[]⟩ : ByteArray), .string (⟨#[]⟩ : ByteArray), .int .i64 0] 71 ?_; intro gb_2 hg w_3 BK_2 hb; have GW_1 := a_ (bs_1 hg HB GE_1); have GE_2 := a_ (bs_1 hg HB GE_1); replace HB := hB_ (bl_1 HB GE_1) hb; have NB_1 := nB_ hg BK_1; have NB_2 := nC_ hg BK_1; replace BK_1 := bB_ BK_1 hb; clear hb hg; have := NB_2.out; have := NB_1.out; obtain ⟨_, _, _, _, _, _⟩ := c3_ BK_2) | go_quiet (first | ((with_reducible refine gd_ 4 ?_); (try (refine gate_guard (by rfl) ?_; dsimp only)); refine bz_ 4 #[.string (⟨#[]⟩ : ByteArray), .string (⟨#[]⟩ : ByteArray), .int .i64 0] 71 ?_; intro gb_2 hg w_3 BK_2 hb; have GW_1 := a_ (bs_1 hg HB GE_1); have GE_2 := a_ (bs_1 hg HB GE_1); replace HB := hB_ (bl_1 HB GE_1) hb; have NB_1 := nB_ hg BK_1; have NB_2 := nC_ hg BK_1; replace BK_1 := bB_ BK_1 hb; clear hb hg; have := NB_2.out; have := NB_1.out; obtain ⟨_, _, _, _, _, _⟩ := c3_ BK_2)))
        go_ret
        exact ⟨fz_, bl_2 HB GE_1 GE_2⟩
       rw [if_neg c_12] at H
       have c_13 : decide ((((rd_T71 l0_0 x_1).f1).size : Int) < ((rd_T71 l0_0 x_1).f2)) = false := decide_eq_false c_12
       clear c_12
       by_cases c_14 : x_1 > 0
       rotate_left
       ·rw [if_neg c_14] at H
        have c_15 : decide (0 < x_1) = false := decide_eq_false c_14
        clear c_14
        have H' := a_ H
        clear H
        have p_1 : 0 ≤ (x_1 : Int) := od_
        have q_1 : x_1 < (l0_0.length : Int) := od_
        obtain ⟨ad_1, e_1, hx_1, hx_2, hx_3⟩ := at_T71 HR_1.out x_1 p_1 q_1
        cases e_1
        replace hx_1 := hc_ HB hx_1
        replace hx_2 := hc_ HB hx_2
        replace hx_3 := hc_ HB hx_3
        replace p_1 := eq_true p_1
        replace q_1 := eq_true q_1
        go_wp2_with (first | ((with_reducible refine gd_ 4 ?_); (try (refine gate_guard (by rfl) ?_; dsimp only)); refine bz_ 4 #[.string (⟨#[]⟩ : ByteArray), .string (⟨#[]⟩ : ByteArray), .int .i64 0] 71 ?_; intro gb_2 hg w_4 BK_2 hb; have GW_1 := a_ (bs_1 hg HB GE_1); have GE_2 := a_ (bs_1 hg HB GE_1); replace HB := hB_ (bl_1 HB GE_1) hb; have NB_1 := nB_ hg BK_1; have NB_2 := nC_ hg BK_1; replace BK_1 := bB_ BK_1 hb; clear hb hg; have := NB_2.out; have := NB_1.out; obtain ⟨_, _, _, _, _, _⟩ := c3_ BK_2) | go_quiet (first | ((with_reducible refine gd_ 4 ?_); (try (refine gate_guard (by rfl) ?_; dsimp only)); refine bz_ 4 #[.string (⟨#[]⟩ : ByteArray), .string (⟨#[]⟩ : ByteArray), .int .i64 0] 71 ?_; intro gb_2 hg w_4 BK_2 hb; have GW_1 := a_ (bs_1 hg HB GE_1); have GE_2 := a_ (bs_1 hg HB GE_1); replace HB := hB_ (bl_1 HB GE_1) hb; have NB_1 := nB_ hg BK_1; have NB_2 := nC_ hg BK_1; replace BK_1 := bB_ BK_1 hb; clear hb hg; have := NB_2.out; have := NB_1.out; obtain ⟨_, _, _, _, _, _⟩ := c3_ BK_2)))
        go_roundg k1
        case measure => have := HK_1.out; omega
        case rel => exact ⟨(wrap64 (x_1 + 1)), fz_, H', ⟨by have := HK_1.out; omega⟩, ⟨by refine bq_ ?_; refine blk_far ?_ NB_1.out _; refine bq_ ?_; refine blk_far ?_ NB_1.out _; refine bq_ ?_; refine blk_far ?_ NB_1.out _; refine bq_ ?_; exact BK_1.out⟩, ⟨bl_2 HB GE_1 GE_2⟩⟩
       rw [if_pos c_14] at H
       have c_15 : decide (0 < x_1) = true := decide_eq_true c_14
       clear c_14
       obtain ⟨ji_1, hji_1⟩ : ∃ j_ : Int, (wrap64 (x_1 - 1)) = j_ := ⟨_, rfl⟩
       replace H : (if 0 ≤ (ji_1) then (if (ji_1) < (l0_0.length : Int) then (if ((Op.bytesLess (((rd_T71 l0_0 (ji_1)).f0).toList) (((rd_T71 l0_0 x_1).f0).toList)) = true) then (gafferref02_Check.l0 k1 l0_0 (l0_0.length : Int) (wrap64 (x_1 + 1)) l0_0 a0_1 a0_2) else (some 10)) else (none)) else (none)) = some r := by first | (rw [hji_1] at H; exact H) | (simp only [hji_1] at H ⊢; exact H)
       have hji_2 : (IntKind.i64.wrap (x_1 - 1)) = ji_1 := (i64_w _).trans hji_1
       replace H := ip_ H
       obtain ⟨-, c_17, H⟩ := H
       replace H := ip_ H
       obtain ⟨-, c_19, H⟩ := H
       by_cases c_20 : ((Op.bytesLess (((rd_T71 l0_0 (ji_1)).f0).toList) (((rd_T71 l0_0 x_1).f0).toList)) = true)
       rotate_left
       ·rw [if_neg c_20] at H
        have c_21 : (Op.bytesLess (((rd_T71 l0_0 (ji_1)).f0).toList) (((rd_T71 l0_0 x_1).f0).toList)) = false := by simpa using c_20
        clear c_20
        obtain rfl := Option.some.inj H
        have p_1 : 0 ≤ (x_1 : Int) := od_
        have q_1 : x_1 < (l0_0.length : Int) := od_
        obtain ⟨ad_1, e_1, hx_1, hx_2, hx_3⟩ := at_T71 HR_1.out x_1 p_1 q_1
        cases e_1
        replace hx_1 := hc_ HB hx_1
        replace hx_2 := hc_ HB hx_2
        replace hx_3 := hc_ HB hx_3
        replace p_1 := eq_true p_1
        replace q_1 := eq_true q_1
        go_wp2_with (first | ((with_reducible refine gd_ 4 ?_); (try (refine gate_guard (by rfl) ?_; dsimp only)); refine bz_ 4 #[.string (⟨#[]⟩ : ByteArray), .string (⟨#[]⟩ : ByteArray), .int .i64 0] 71 ?_; intro gb_2 hg w_5 BK_2 hb; have GW_1 := a_ (bs_1 hg HB GE_1); have GE_2 := a_ (bs_1 hg HB GE_1); replace HB := hB_ (bl_1 HB GE_1) hb; have NB_1 := nB_ hg BK_1; have NB_2 := nC_ hg BK_1; replace BK_1 := bB_ BK_1 hb; clear hb hg; have := NB_2.out; have := NB_1.out; obtain ⟨_, _, _, _, _, _⟩ := c3_ BK_2; obtain ⟨_, _, _, _, _, _⟩ := c3_ BK_1; have p_2 : 0 ≤ ((ji_1) : Int) := od_; have q_2 : (ji_1) < (l0_0.length : Int) := od_; obtain ⟨ad_2, e_2, hx_4, hx_5, hx_6⟩ := at_T71 HR_1.out (ji_1) p_2 q_2; obtain rfl : ad_1 = ad_2 := (by injection e_2); have hn_1 : ad_1.block ≠ gb_2 := Nat.ne_of_lt (Nat.lt_of_lt_of_le (by have := World.block_lt_of_cell? _ _ hx_4; first | rwa [add_block] at this | exact this) GW_1.out); have hn_2 : ad_1.block ≠ gb_2 := Nat.ne_of_lt (Nat.lt_of_lt_of_le (by have := World.block_lt_of_cell? _ _ hx_4; first | rwa [add_block] at this | exact this) GW_1.out); have hn_3 : ad_1.block ≠ gb_2 := Nat.ne_of_lt (Nat.lt_of_lt_of_le (by have := World.block_lt_of_cell? _ _ hx_4; first | rwa [add_block] at this | exact this) GW_1.out); replace hx_4 := (HB.out.cell (World.block_lt_of_cell? w _ hx_4)).trans hx_4; replace hx_5 := (HB.out.cell (World.block_lt_of_cell? w _ hx_5)).trans hx_5; replace hx_6 := (HB.out.cell (World.block_lt_of_cell? w _ hx_6)).trans hx_6; replace hx_4 := (cf_ (p := ⟨gb_2, 0, none⟩) hn_1 (.string ((rd_T71 l0_0 x_1).f0))).trans hx_4; replace hx_5 := (cf_ (p := ⟨gb_2, 0, none⟩) hn_1 (.string ((rd_T71 l0_0 x_1).f0))).trans hx_5; replace hx_6 := (cf_ (p := ⟨gb_2, 0, none⟩) hn_1 (.string ((rd_T71 l0_0 x_1).f0))).trans hx_6; replace hx_4 := (cf_ (p := ⟨gb_2, 1, none⟩) hn_2 (.string ((rd_T71 l0_0 x_1).f1))).trans hx_4; replace hx_5 := (cf_ (p := ⟨gb_2, 1, none⟩) hn_2 (.string ((rd_T71 l0_0 x_1).f1))).trans hx_5; replace hx_6 := (cf_ (p := ⟨gb_2, 1, none⟩) hn_2 (.string ((rd_T71 l0_0 x_1).f1))).trans hx_6; replace hx_4 := (cf_ (p := ⟨gb_2, 2, none⟩) hn_3 (.int .i64 ((rd_T71 l0_0 x_1).f2))).trans hx_4; replace hx_5 := (cf_ (p := ⟨gb_2, 2, none⟩) hn_3 (.int .i64 ((rd_T71 l0_0 x_1).f2))).trans hx_5; replace hx_6 := (cf_ (p := ⟨gb_2, 2, none⟩) hn_3 (.int .i64 ((rd_T71 l0_0 x_1).f2))).trans hx_6; (try have hy_1 := fun (n_ : Nat) => (show (((((w_5.drewN n_).setCell ⟨gb_2, 0, none⟩ (.string ((rd_T71 l0_0 x_1).f0))).setCell ⟨gb_2, 1, none⟩ (.string ((rd_T71 l0_0 x_1).f1))).setCell ⟨gb_2, 2, none⟩ (.int .i64 ((rd_T71 l0_0 x_1).f2)))).cell? _ = some _ from hx_4)); (try have hy_2 := fun (n_ : Nat) => (show (((((w_5.drewN n_).setCell ⟨gb_2, 0, none⟩ (.string ((rd_T71 l0_0 x_1).f0))).setCell ⟨gb_2, 1, none⟩ (.string ((rd_T71 l0_0 x_1).f1))).setCell ⟨gb_2, 2, none⟩ (.int .i64 ((rd_T71 l0_0 x_1).f2)))).cell? _ = some _ from hx_5)); (try have hy_3 := fun (n_ : Nat) => (show (((((w_5.drewN n_).setCell ⟨gb_2, 0, none⟩ (.string ((rd_T71 l0_0 x_1).f0))).setCell ⟨gb_2, 1, none⟩ (.string ((rd_T71 l0_0 x_1).f1))).setCell ⟨gb_2, 2, none⟩ (.int .i64 ((rd_T71 l0_0 x_1).f2)))).cell? _ = some _ from hx_6)); clear hn_1; clear hn_2; clear hn_3; replace p_2 := eq_true p_2; replace q_2 := eq_true q_2) | go_quiet (first | ((with_reducible refine gd_ 4 ?_); (try (refine gate_guard (by rfl) ?_; dsimp only)); refine bz_ 4 #[.string (⟨#[]⟩ : ByteArray), .string (⟨#[]⟩ : ByteArray), .int .i64 0] 71 ?_; intro gb_2 hg w_5 BK_2 hb; have GW_1 := a_ (bs_1 hg HB GE_1); have GE_2 := a_ (bs_1 hg HB GE_1); replace HB := hB_ (bl_1 HB GE_1) hb; have NB_1 := nB_ hg BK_1; have NB_2 := nC_ hg BK_1; replace BK_1 := bB_ BK_1 hb; clear hb hg; have := NB_2.out; have := NB_1.out; obtain ⟨_, _, _, _, _, _⟩ := c3_ BK_2; obtain ⟨_, _, _, _, _, _⟩ := c3_ BK_1; have p_2 : 0 ≤ ((ji_1) : Int) := od_; have q_2 : (ji_1) < (l0_0.length : Int) := od_; obtain ⟨ad_2, e_2, hx_4, hx_5, hx_6⟩ := at_T71 HR_1.out (ji_1) p_2 q_2; obtain rfl : ad_1 = ad_2 := (by injection e_2); have hn_1 : ad_1.block ≠ gb_2 := Nat.ne_of_lt (Nat.lt_of_lt_of_le (by have := World.block_lt_of_cell? _ _ hx_4; first | rwa [add_block] at this | exact this) GW_1.out); have hn_2 : ad_1.block ≠ gb_2 := Nat.ne_of_lt (Nat.lt_of_lt_of_le (by have := World.block_lt_of_cell? _ _ hx_4; first | rwa [add_block] at this | exact this) GW_1.out); have hn_3 : ad_1.block ≠ gb_2 := Nat.ne_of_lt (Nat.lt_of_lt_of_le (by have := World.block_lt_of_cell? _ _ hx_4; first | rwa [add_block] at this | exact this) GW_1.out); replace hx_4 := (HB.out.cell (World.block_lt_of_cell? w _ hx_4)).trans hx_4; replace hx_5 := (HB.out.cell (World.block_lt_of_cell? w _ hx_5)).trans hx_5; replace hx_6 := (HB.out.cell (World.block_lt_of_cell? w _ hx_6)).trans hx_6; replace hx_4 := (cf_ (p := ⟨gb_2, 0, none⟩) hn_1 (.string ((rd_T71 l0_0 x_1).f0))).trans hx_4; replace hx_5 := (cf_ (p := ⟨gb_2, 0, none⟩) hn_1 (.string ((rd_T71 l0_0 x_1).f0))).trans hx_5; replace hx_6 := (cf_ (p := ⟨gb_2, 0, none⟩) hn_1 (.string ((rd_T71 l0_0 x_1).f0))).trans hx_6; replace hx_4 := (cf_ (p := ⟨gb_2, 1, none⟩) hn_2 (.string ((rd_T71 l0_0 x_1).f1))).trans hx_4; replace hx_5 := (cf_ (p := ⟨gb_2, 1, none⟩) hn_2 (.string ((rd_T71 l0_0 x_1).f1))).trans hx_5; replace hx_6 := (cf_ (p := ⟨gb_2, 1, none⟩) hn_2 (.string ((rd_T71 l0_0 x_1).f1))).trans hx_6; replace hx_4 := (cf_ (p := ⟨gb_2, 2, none⟩) hn_3 (.int .i64 ((rd_T71 l0_0 x_1).f2))).trans hx_4; replace hx_5 := (cf_ (p := ⟨gb_2, 2, none⟩) hn_3 (.int .i64 ((rd_T71 l0_0 x_1).f2))).trans hx_5; replace hx_6 := (cf_ (p := ⟨gb_2, 2, none⟩) hn_3 (.int .i64 ((rd_T71 l0_0 x_1).f2))).trans hx_6; (try have hy_1 := fun (n_ : Nat) => (show (((((w_5.drewN n_).setCell ⟨gb_2, 0, none⟩ (.string ((rd_T71 l0_0 x_1).f0))).setCell ⟨gb_2, 1, none⟩ (.string ((rd_T71 l0_0 x_1).f1))).setCell ⟨gb_2, 2, none⟩ (.int .i64 ((rd_T71 l0_0 x_1).f2)))).cell? _ = some _ from hx_4)); (try have hy_2 := fun (n_ : Nat) => (show (((((w_5.drewN n_).setCell ⟨gb_2, 0, none⟩ (.string ((rd_T71 l0_0 x_1).f0))).setCell ⟨gb_2, 1, none⟩ (.string ((rd_T71 l0_0 x_1).f1))).setCell ⟨gb_2, 2, none⟩ (.int .i64 ((rd_T71 l0_0 x_1).f2)))).cell? _ = some _ from hx_5)); (try have hy_3 := fun (n_ : Nat) => (show (((((w_5.drewN n_).setCell ⟨gb_2, 0, none⟩ (.string ((rd_T71 l0_0 x_1).f0))).setCell ⟨gb_2, 1, none⟩ (.string ((rd_T71 l0_0 x_1).f1))).setCell ⟨gb_2, 2, none⟩ (.int .i64 ((rd_T71 l0_0 x_1).f2)))).cell? _ = some _ from hx_6)); clear hn_1; clear hn_2; clear hn_3; replace p_2 := eq_true p_2; replace q_2 := eq_true q_2)))
        go_ret
        exact ⟨by first | rfl | (simp [errW_none, errW_some] <;> rfl) | (simp only [← hji_1]; first | rfl | (simp [errW_none, errW_some] <;> rfl)) | (simp [*, errW_none, errW_some] <;> rfl), bl_2 HB GE_1 GE_2⟩
       rw [if_pos c_20] at H
       have c_21 : (Op.bytesLess (((rd_T71 l0_0 (ji_1)).f0).toList) (((rd_T71 l0_0 x_1).f0).toList)) = true := c_20
       clear c_20
       have H' := a_ H
       clear H
       have p_1 : 0 ≤ (x_1 : Int) := od_
       have q_1 : x_1 < (l0_0.length : Int) := od_
       obtain ⟨ad_1, e_1, hx_1, hx_2, hx_3⟩ := at_T71 HR_1.out x_1 p_1 q_1
       cases e_1
       replace hx_1 := hc_ HB hx_1
       replace hx_2 := hc_ HB hx_2
       replace hx_3 := hc_ HB hx_3
       replace p_1 := eq_true p_1
       replace q_1 := eq_true q_1
       go_wp2_with (first | ((with_reducible refine gd_ 4 ?_); (try (refine gate_guard (by rfl) ?_; dsimp only)); refine bz_ 4 #[.string (⟨#[]⟩ : ByteArray), .string (⟨#[]⟩ : ByteArray), .int .i64 0] 71 ?_; intro gb_2 hg w_6 BK_2 hb; have GW_1 := a_ (bs_1 hg HB GE_1); have GE_2 := a_ (bs_1 hg HB GE_1); replace HB := hB_ (bl_1 HB GE_1) hb; have NB_1 := nB_ hg BK_1; have NB_2 := nC_ hg BK_1; replace BK_1 := bB_ BK_1 hb; clear hb hg; have := NB_2.out; have := NB_1.out; obtain ⟨_, _, _, _, _, _⟩ := c3_ BK_2; obtain ⟨_, _, _, _, _, _⟩ := c3_ BK_1; have p_2 : 0 ≤ ((ji_1) : Int) := od_; have q_2 : (ji_1) < (l0_0.length : Int) := od_; obtain ⟨ad_2, e_2, hx_4, hx_5, hx_6⟩ := at_T71 HR_1.out (ji_1) p_2 q_2; obtain rfl : ad_1 = ad_2 := (by injection e_2); have hn_1 : ad_1.block ≠ gb_2 := Nat.ne_of_lt (Nat.lt_of_lt_of_le (by have := World.block_lt_of_cell? _ _ hx_4; first | rwa [add_block] at this | exact this) GW_1.out); have hn_2 : ad_1.block ≠ gb_2 := Nat.ne_of_lt (Nat.lt_of_lt_of_le (by have := World.block_lt_of_cell? _ _ hx_4; first | rwa [add_block] at this | exact this) GW_1.out); have hn_3 : ad_1.block ≠ gb_2 := Nat.ne_of_lt (Nat.lt_of_lt_of_le (by have := World.block_lt_of_cell? _ _ hx_4; first | rwa [add_block] at this | exact this) GW_1.out); replace hx_4 := (HB.out.cell (World.block_lt_of_cell? w _ hx_4)).trans hx_4; replace hx_5 := (HB.out.cell (World.block_lt_of_cell? w _ hx_5)).trans hx_5; replace hx_6 := (HB.out.cell (World.block_lt_of_cell? w _ hx_6)).trans hx_6; replace hx_4 := (cf_ (p := ⟨gb_2, 0, none⟩) hn_1 (.string ((rd_T71 l0_0 x_1).f0))).trans hx_4; replace hx_5 := (cf_ (p := ⟨gb_2, 0, none⟩) hn_1 (.string ((rd_T71 l0_0 x_1).f0))).trans hx_5; replace hx_6 := (cf_ (p := ⟨gb_2, 0, none⟩) hn_1 (.string ((rd_T71 l0_0 x_1).f0))).trans hx_6; replace hx_4 := (cf_ (p := ⟨gb_2, 1, none⟩) hn_2 (.string ((rd_T71 l0_0 x_1).f1))).trans hx_4; replace hx_5 := (cf_ (p := ⟨gb_2, 1, none⟩) hn_2 (.string ((rd_T71 l0_0 x_1).f1))).trans hx_5; replace hx_6 := (cf_ (p := ⟨gb_2, 1, none⟩) hn_2 (.string ((rd_T71 l0_0 x_1).f1))).trans hx_6; replace hx_4 := (cf_ (p := ⟨gb_2, 2, none⟩) hn_3 (.int .i64 ((rd_T71 l0_0 x_1).f2))).trans hx_4; replace hx_5 := (cf_ (p := ⟨gb_2, 2, none⟩) hn_3 (.int .i64 ((rd_T71 l0_0 x_1).f2))).trans hx_5; replace hx_6 := (cf_ (p := ⟨gb_2, 2, none⟩) hn_3 (.int .i64 ((rd_T71 l0_0 x_1).f2))).trans hx_6; (try have hy_1 := fun (n_ : Nat) => (show (((((w_6.drewN n_).setCell ⟨gb_2, 0, none⟩ (.string ((rd_T71 l0_0 x_1).f0))).setCell ⟨gb_2, 1, none⟩ (.string ((rd_T71 l0_0 x_1).f1))).setCell ⟨gb_2, 2, none⟩ (.int .i64 ((rd_T71 l0_0 x_1).f2)))).cell? _ = some _ from hx_4)); (try have hy_2 := fun (n_ : Nat) => (show (((((w_6.drewN n_).setCell ⟨gb_2, 0, none⟩ (.string ((rd_T71 l0_0 x_1).f0))).setCell ⟨gb_2, 1, none⟩ (.string ((rd_T71 l0_0 x_1).f1))).setCell ⟨gb_2, 2, none⟩ (.int .i64 ((rd_T71 l0_0 x_1).f2)))).cell? _ = some _ from hx_5)); (try have hy_3 := fun (n_ : Nat) => (show (((((w_6.drewN n_).setCell ⟨gb_2, 0, none⟩ (.string ((rd_T71 l0_0 x_1).f0))).setCell ⟨gb_2, 1, none⟩ (.string ((rd_T71 l0_0 x_1).f1))).setCell ⟨gb_2, 2, none⟩ (.int .i64 ((rd_T71 l0_0 x_1).f2)))).cell? _ = some _ from hx_6)); clear hn_1; clear hn_2; clear hn_3; replace p_2 := eq_true p_2; replace q_2 := eq_true q_2) | go_quiet (first | ((with_reducible refine gd_ 4 ?_); (try (refine gate_guard (by rfl) ?_; dsimp only)); refine bz_ 4 #[.string (⟨#[]⟩ : ByteArray), .string (⟨#[]⟩ : ByteArray), .int .i64 0] 71 ?_; intro gb_2 hg w_6 BK_2 hb; have GW_1 := a_ (bs_1 hg HB GE_1); have GE_2 := a_ (bs_1 hg HB GE_1); replace HB := hB_ (bl_1 HB GE_1) hb; have NB_1 := nB_ hg BK_1; have NB_2 := nC_ hg BK_1; replace BK_1 := bB_ BK_1 hb; clear hb hg; have := NB_2.out; have := NB_1.out; obtain ⟨_, _, _, _, _, _⟩ := c3_ BK_2; obtain ⟨_, _, _, _, _, _⟩ := c3_ BK_1; have p_2 : 0 ≤ ((ji_1) : Int) := od_; have q_2 : (ji_1) < (l0_0.length : Int) := od_; obtain ⟨ad_2, e_2, hx_4, hx_5, hx_6⟩ := at_T71 HR_1.out (ji_1) p_2 q_2; obtain rfl : ad_1 = ad_2 := (by injection e_2); have hn_1 : ad_1.block ≠ gb_2 := Nat.ne_of_lt (Nat.lt_of_lt_of_le (by have := World.block_lt_of_cell? _ _ hx_4; first | rwa [add_block] at this | exact this) GW_1.out); have hn_2 : ad_1.block ≠ gb_2 := Nat.ne_of_lt (Nat.lt_of_lt_of_le (by have := World.block_lt_of_cell? _ _ hx_4; first | rwa [add_block] at this | exact this) GW_1.out); have hn_3 : ad_1.block ≠ gb_2 := Nat.ne_of_lt (Nat.lt_of_lt_of_le (by have := World.block_lt_of_cell? _ _ hx_4; first | rwa [add_block] at this | exact this) GW_1.out); replace hx_4 := (HB.out.cell (World.block_lt_of_cell? w _ hx_4)).trans hx_4; replace hx_5 := (HB.out.cell (World.block_lt_of_cell? w _ hx_5)).trans hx_5; replace hx_6 := (HB.out.cell (World.block_lt_of_cell? w _ hx_6)).trans hx_6; replace hx_4 := (cf_ (p := ⟨gb_2, 0, none⟩) hn_1 (.string ((rd_T71 l0_0 x_1).f0))).trans hx_4; replace hx_5 := (cf_ (p := ⟨gb_2, 0, none⟩) hn_1 (.string ((rd_T71 l0_0 x_1).f0))).trans hx_5; replace hx_6 := (cf_ (p := ⟨gb_2, 0, none⟩) hn_1 (.string ((rd_T71 l0_0 x_1).f0))).trans hx_6; replace hx_4 := (cf_ (p := ⟨gb_2, 1, none⟩) hn_2 (.string ((rd_T71 l0_0 x_1).f1))).trans hx_4; replace hx_5 := (cf_ (p := ⟨gb_2, 1, none⟩) hn_2 (.string ((rd_T71 l0_0 x_1).f1))).trans hx_5; replace hx_6 := (cf_ (p := ⟨gb_2, 1, none⟩) hn_2 (.string ((rd_T71 l0_0 x_1).f1))).trans hx_6; replace hx_4 := (cf_ (p := ⟨gb_2, 2, none⟩) hn_3 (.int .i64 ((rd_T71 l0_0 x_1).f2))).trans hx_4; replace hx_5 := (cf_ (p := ⟨gb_2, 2, none⟩) hn_3 (.int .i64 ((rd_T71 l0_0 x_1).f2))).trans hx_5; replace hx_6 := (cf_ (p := ⟨gb_2, 2, none⟩) hn_3 (.int .i64 ((rd_T71 l0_0 x_1).f2))).trans hx_6; (try have hy_1 := fun (n_ : Nat) => (show (((((w_6.drewN n_).setCell ⟨gb_2, 0, none⟩ (.string ((rd_T71 l0_0 x_1).f0))).setCell ⟨gb_2, 1, none⟩ (.string ((rd_T71 l0_0 x_1).f1))).setCell ⟨gb_2, 2, none⟩ (.int .i64 ((rd_T71 l0_0 x_1).f2)))).cell? _ = some _ from hx_4)); (try have hy_2 := fun (n_ : Nat) => (show (((((w_6.drewN n_).setCell ⟨gb_2, 0, none⟩ (.string ((rd_T71 l0_0 x_1).f0))).setCell ⟨gb_2, 1, none⟩ (.string ((rd_T71 l0_0 x_1).f1))).setCell ⟨gb_2, 2, none⟩ (.int .i64 ((rd_T71 l0_0 x_1).f2)))).cell? _ = some _ from hx_5)); (try have hy_3 := fun (n_ : Nat) => (show (((((w_6.drewN n_).setCell ⟨gb_2, 0, none⟩ (.string ((rd_T71 l0_0 x_1).f0))).setCell ⟨gb_2, 1, none⟩ (.string ((rd_T71 l0_0 x_1).f1))).setCell ⟨gb_2, 2, none⟩ (.int .i64 ((rd_T71 l0_0 x_1).f2)))).cell? _ = some _ from hx_6)); clear hn_1; clear hn_2; clear hn_3; replace p_2 := eq_true p_2; replace q_2 := eq_true q_2)))
       go_roundg k1
       case measure => have := HK_1.out; omega
       case rel => exact ⟨(wrap64 (x_1 + 1)), fz_, H', ⟨by have := HK_1.out; omega⟩, ⟨by refine bq_ ?_; refine blk_far ?_ NB_1.out _; refine bq_ ?_; refine blk_far ?_ NB_1.out _; refine bq_ ?_; refine blk_far ?_ NB_1.out _; refine bq_ ?_; exact BK_1.out⟩, ⟨bl_2 HB GE_1 GE_2⟩⟩)

def gafferref02_find.l0 : Nat → ByteArray → List (S71) → Int → Int → Option (Int)
 | 0, _, _, _, _ => none
 | k + 1, x1, x8, x9, x10 => if x10 < x9 then (if 0 ≤ x10 then (if x10 < (x8.length : Int) then (if ((rd_T71 x8 x10).f0).toList = x1.toList then (some x10) else (gafferref02_find.l0 k x1 x8 x9 (wrap64 (x10 + 1)))) else (none)) else (none)) else (some (-1))
def gafferref02_find.f (k : Nat) (l0_0 : List (S71)) (a0_1 : Bool) (a0_2 : Int) (a1 : ByteArray) : Option (Int) := gafferref02_find.l0 k a1 l0_0 (l0_0.length : Int) 0
theorem gafferref02_find.mono_l : ∀ k, (∀ y0 y1 y2 y3, LeO (gafferref02_find.l0 k y0 y1 y2 y3) (gafferref02_find.l0 (k + 1) y0 y1 y2 y3))
 | 0 => fun _ _ _ _ r h => by simp [gafferref02_find.l0] at h
 | k + 1 => by
  have ih0 := gafferref02_find.mono_l k
  ·intro y0 y1 y2 y3
   unfold gafferref02_find.l0
   repeat' with_reducible first | apply ih0 | apply LeO.refl | apply LeO.none | apply LeO.ite | refine LeO.bind ?_ (fun _ => ?_)
theorem gafferref02_find.mono : ∀ a0 a1 a2 a3 k, LeO (gafferref02_find.f k a0 a1 a2 a3) (gafferref02_find.f (k + 1) a0 a1 a2 a3) := by
 intro a0 a1 a2 a3 k
 have ih0 := gafferref02_find.mono_l k
 unfold gafferref02_find.f
 repeat' with_reducible first | apply ih0 | apply LeO.refl | apply LeO.none | apply LeO.ite | refine LeO.bind ?_ (fun _ => ?_)
theorem gafferref02_find.calls (k : Nat) (A0_0 : Option Addr) (c0_0 : Nat) (l0_0 : List (S71)) (a0_1 : Bool) (a0_2 : Int) (a1 : ByteArray) (r : Int) (w : World) (hr0_0 : Kd.C k71 w A0_0 l0_0.length l0_0) (hc0_0 : l0_0.length ≤ c0_0) (h : gafferref02_find.f k l0_0 a0_1 a0_2 a1 = some r) :
  Calls Try.prog 64 #[.agg #[.slice A0_0 l0_0.length c0_0, .bool a0_1, .int .i64 a0_2], .string a1] w fun e w' => e = .returned (.int .i64 r) ∧ Below w.heap.size w w' := by
 have hu_1 := Try.underlying24
 have hu_2 := Try.underlying71
 have HR_1 := a_ hr0_0
 have HC_1 := a_ hc0_0
 clear hr0_0 hc0_0
 have HB := a_ (Below.refl w.heap.size w)
 have H := h
 unfold gafferref02_find.f at H
 clear h
 have H' := a_ H
 clear H
 go_enter Try.func64, Try.ntmps64
 go_wp2_with (first | ((with_reducible refine gd_ 2 ?_); refine bz_ 2 #[.slice A0_0 l0_0.length c0_0, .bool a0_1, .int .i64 a0_2] 24 ?_; intro gb_1 hg w_1 BK_1 hb; have GE_1 := a_ (bs_0 hg HB); replace HB := hB_ (bl_ HB) hb; clear hb hg; obtain ⟨_, _, _, _, _, _⟩ := c3_ BK_1))
 go_loopg [10] k (fun kq v10 w' => ∃ (x10_1 : Int), v10 = .int .i64 x10_1 ∧ Aside0 (gafferref02_find.l0 kq a1 l0_0 (l0_0.length : Int) x10_1 = some r) ∧ Aside0 (kq ≤ k) ∧ Aside0 (w'.heap[gb_1]? = some (.cells #[(.slice A0_0 l0_0.length c0_0), .bool a0_1, .int .i64 a0_2] 24 (0, 0))) ∧ Aside0 (Below w.heap.size w w'))
 case atStart => exact ⟨(0), fz_, H', ⟨Nat.le_refl _⟩, ⟨bk_ BK_1⟩, ⟨bl_1 HB GE_1⟩⟩
 case round =>
  clear H'
  obtain ⟨x_1, rfl, HA, HK_1, BK_1, HB⟩ := hrel
  cases gk with
  | zero => exact absurd HA.out (by simp [gafferref02_find.l0])
  | succ k1 =>
   have H := HA.out
   clear HA
   simp only [gafferref02_find.l0] at H
   by_cases c_1 : x_1 < (l0_0.length : Int)
   rotate_left
   ·rw [if_neg c_1] at H
    have c_2 : decide (x_1 < (l0_0.length : Int)) = false := decide_eq_false c_1
    clear c_1
    obtain rfl := Option.some.inj H
    go_wp2
    go_ret
    exact ⟨fz_, bl_1 HB GE_1⟩
   rw [if_pos c_1] at H
   have c_2 : decide (x_1 < (l0_0.length : Int)) = true := decide_eq_true c_1
   clear c_1
   replace H := ip_ H
   obtain ⟨-, c_4, H⟩ := H
   replace H := ip_ H
   obtain ⟨-, c_6, H⟩ := H
   by_cases c_7 : ((rd_T71 l0_0 x_1).f0).toList = a1.toList
   ·rw [if_pos c_7] at H
    obtain ⟨c_8, c_9⟩ := be_ c_7
    clear c_7
    obtain rfl := Option.some.inj H
    have p_1 : 0 ≤ (x_1 : Int) := od_
    have q_1 : x_1 < (l0_0.length : Int) := od_
    obtain ⟨ad_1, e_1, hx_1, hx_2, hx_3⟩ := at_T71 HR_1.out x_1 p_1 q_1
    cases e_1
    replace hx_1 := hc_ HB hx_1
    replace hx_2 := hc_ HB hx_2
    replace hx_3 := hc_ HB hx_3
    replace p_1 := eq_true p_1
    replace q_1 := eq_true q_1
    go_wp2_with (first | ((with_reducible refine gd_ 6 ?_); refine bz_ 6 #[.string (⟨#[]⟩ : ByteArray), .string (⟨#[]⟩ : ByteArray), .int .i64 0] 71 ?_; intro gb_2 hg w_2 BK_2 hb; have GE_2 := a_ (bs_1 hg HB GE_1); replace HB := hB_ (bl_1 HB GE_1) hb; have NB_1 := nB_ hg BK_1; have NB_2 := nC_ hg BK_1; replace BK_1 := bB_ BK_1 hb; clear hb hg; have := NB_2.out; have := NB_1.out; obtain ⟨_, _, _, _, _, _⟩ := c3_ BK_2))
    go_ret
    exact ⟨fz_, bl_2 HB GE_1 GE_2⟩
   rw [if_neg c_7] at H
   obtain ⟨c_8, c_9⟩ := bn_ c_7
   have H' := a_ H
   clear H
   have p_1 : 0 ≤ (x_1 : Int) := od_
   have q_1 : x_1 < (l0_0.length : Int) := od_
   obtain ⟨ad_1, e_1, hx_1, hx_2, hx_3⟩ := at_T71 HR_1.out x_1 p_1 q_1
   cases e_1
   replace hx_1 := hc_ HB hx_1
   replace hx_2 := hc_ HB hx_2
   replace hx_3 := hc_ HB hx_3
   replace p_1 := eq_true p_1
   replace q_1 := eq_true q_1
   go_wp2_with (first | ((with_reducible refine gd_ 6 ?_); refine bz_ 6 #[.string (⟨#[]⟩ : ByteArray), .string (⟨#[]⟩ : ByteArray), .int .i64 0] 71 ?_; intro gb_2 hg w_3 BK_2 hb; have GE_2 := a_ (bs_1 hg HB GE_1); replace HB := hB_ (bl_1 HB GE_1) hb; have NB_1 := nB_ hg BK_1; have NB_2 := nC_ hg BK_1; replace BK_1 := bB_ BK_1 hb; clear hb hg; have := NB_2.out; have := NB_1.out; obtain ⟨_, _, _, _, _, _⟩ := c3_ BK_2))
   go_roundg k1
   case measure => have := HK_1.out; omega
   case rel => exact ⟨(wrap64 (x_1 + 1)), fz_, H', ⟨by have := HK_1.out; omega⟩, ⟨by refine bq_ ?_; refine blk_far ?_ NB_1.out _; refine bq_ ?_; refine blk_far ?_ NB_1.out _; refine bq_ ?_; refine blk_far ?_ NB_1.out _; refine bq_ ?_; exact BK_1.out⟩, ⟨bl_2 HB GE_1 GE_2⟩⟩
def gafferref02_Read.f (k : Nat) (l0_0 : List (S71)) (a0_1 : Bool) (a0_2 : Int) (a1 : ByteArray) : Option (ByteArray × Int) := (gafferref02_Check.f k l0_0 a0_1 a0_2).bind fun t449 => (if t449 = 0 then (if a0_1 = true then (some ((⟨#[]⟩ : ByteArray), 8)) else ((gafferref02_find.f k l0_0 a0_1 a0_2 a1).bind fun t450 => (if t450 < 0 then (some ((⟨#[]⟩ : ByteArray), 6)) else (if 0 ≤ t450 then (if t450 < (l0_0.length : Int) then (some ((rd_T71 l0_0 t450).f1, 0)) else (none)) else (none))))) else (some ((⟨#[]⟩ : ByteArray), 10)))
theorem gafferref02_Read.mono : ∀ a0 a1 a2 a3 k, LeO (gafferref02_Read.f k a0 a1 a2 a3) (gafferref02_Read.f (k + 1) a0 a1 a2 a3) := by
 intro a0 a1 a2 a3 k
 unfold gafferref02_Read.f
 repeat' with_reducible first | apply gafferref02_Check.mono | apply gafferref02_find.mono | apply LeO.refl | apply LeO.none | apply LeO.ite | refine LeO.bind ?_ (fun _ => ?_)
theorem gafferref02_Read.calls (k : Nat) (A0_0 : Option Addr) (c0_0 : Nat) (l0_0 : List (S71)) (a0_1 : Bool) (a0_2 : Int) (a1 : ByteArray) (r1 : ByteArray) (r2 : Int) (w : World) (hr0_0 : Kd.C k71 w A0_0 l0_0.length l0_0) (hc0_0 : l0_0.length ≤ c0_0) (h : gafferref02_Read.f k l0_0 a0_1 a0_2 a1 = some (r1, r2)) :
  Calls Try.prog 41 #[.agg #[.slice A0_0 l0_0.length c0_0, .bool a0_1, .int .i64 a0_2], .string a1] w fun e w' => e = .returned (.tuple #[.string r1, .int .i64 r2]) ∧ Below w.heap.size w w' := by
 have hu24 := Try.underlying24
 have HR0_0 := a_ hr0_0
 have HC0_0 := a_ hc0_0
 clear hr0_0 hc0_0
 have HB := a_ (Below.refl w.heap.size w)
 have H := h
 unfold gafferref02_Read.f at H
 clear h
 obtain ⟨t449, A3, H⟩ := ob_ H
 try dsimp only at H
 by_cases c4 : t449 = 0
 rotate_left
 ·rw [if_neg c4] at H
  obtain ⟨c4b0, c4b1⟩ := bn_ c4
  obtain ⟨rfl, rfl⟩ := so2_ H
  go_enter Try.func41, Try.ntmps41
  go_wp2_with (first | ((with_reducible refine gd_ 2 ?_); refine bz_ 2 #[.slice A0_0 l0_0.length c0_0, .bool a0_1, .int .i64 a0_2] 24 ?_; intro gb448 hg w25 BK448 hb; have GE448 := a_ (bs_0 hg HB); replace HB := hB_ (bl_ HB) hb; clear hb hg; obtain ⟨hcz26_0, hcz26_1, hcz26_2, hfz26_0, hfz26_1, hfz26_2⟩ := c3_ BK448) | ((with_reducible refine gk_ 46 ?_); refine gl_ (some 8) Try.func46 #[.agg #[.slice A0_0 l0_0.length c0_0, .bool a0_1, .int .i64 a0_2]] ?_; (with_reducible refine (gafferref02_Check.calls _ _ _ _ _ _ _ _ ?side1 ?side2 A3.out).mono ?_); (case side1 => exact cl_ (Kd.C_below HR0_0.out HB.out)); (case side2 => exact HC0_0.out); rintro e w27 ⟨rfl, hb⟩; refine ⟨_, rfl, ?_⟩; replace BK448 := bB_ BK448 hb; replace HB := hB_ (bl_1 HB GE448) hb; (try clear hb)))
  go_ret2
  exact ⟨fz_, bl_1 HB GE448⟩


 rw [if_pos c4] at H
 obtain ⟨c4b0, c4b1⟩ := be_ c4
 clear c4
 by_cases c5 : a0_1 = true
 ·subst c5
  have H1 : (some ((⟨#[]⟩ : ByteArray), 8)) = some (r1, r2) := by rw [if_pos rfl] at H; exact H
  clear H
  have H := H1
  clear H1
  obtain ⟨rfl, rfl⟩ := so2_ H
  go_enter Try.func41, Try.ntmps41
  go_wp2_with (first | ((with_reducible refine gd_ 2 ?_); refine bz_ 2 #[.slice A0_0 l0_0.length c0_0, .bool true, .int .i64 a0_2] 24 ?_; intro gb448 hg w6 BK448 hb; have GE448 := a_ (bs_0 hg HB); replace HB := hB_ (bl_ HB) hb; clear hb hg; obtain ⟨hcz7_0, hcz7_1, hcz7_2, hfz7_0, hfz7_1, hfz7_2⟩ := c3_ BK448) | ((with_reducible refine gk_ 46 ?_); refine gl_ (some 8) Try.func46 #[.agg #[.slice A0_0 l0_0.length c0_0, .bool true, .int .i64 a0_2]] ?_; (with_reducible refine (gafferref02_Check.calls _ _ _ _ _ _ _ _ ?side1 ?side2 A3.out).mono ?_); (case side1 => exact cl_ (Kd.C_below HR0_0.out HB.out)); (case side2 => exact HC0_0.out); rintro e w8 ⟨rfl, hb⟩; refine ⟨_, rfl, ?_⟩; replace BK448 := bB_ BK448 hb; replace HB := hB_ (bl_1 HB GE448) hb; (try clear hb); obtain ⟨hcz9_0, hcz9_1, hcz9_2, hfz9_0, hfz9_1, hfz9_2⟩ := c3_ BK448))
  go_ret2
  exact ⟨fz_, bl_1 HB GE448⟩
 replace c5 := Bool.eq_false_iff.mpr c5
 subst c5
 have H1 : ((gafferref02_find.f k l0_0 false a0_2 a1).bind fun t450 => (if t450 < 0 then (some ((⟨#[]⟩ : ByteArray), 6)) else (if 0 ≤ t450 then (if t450 < (l0_0.length : Int) then (some ((rd_T71 l0_0 t450).f1, 0)) else (none)) else (none)))) = some (r1, r2) := by rw [if_neg (show ¬ (false = true) by decide)] at H; exact H
 clear H
 have H := H1
 clear H1
 obtain ⟨t450, A10, H⟩ := ob_ H
 try dsimp only at H
 by_cases c11 : t450 < 0
 ·rw [if_pos c11] at H
  have c11b0 : decide (t450 < 0) = true := decide_eq_true c11
  clear c11
  obtain ⟨rfl, rfl⟩ := so2_ H
  go_enter Try.func41, Try.ntmps41
  go_wp2_with (first | ((with_reducible refine gd_ 2 ?_); refine bz_ 2 #[.slice A0_0 l0_0.length c0_0, .bool false, .int .i64 a0_2] 24 ?_; intro gb448 hg w12 BK448 hb; have GE448 := a_ (bs_0 hg HB); replace HB := hB_ (bl_ HB) hb; clear hb hg; obtain ⟨hcz13_0, hcz13_1, hcz13_2, hfz13_0, hfz13_1, hfz13_2⟩ := c3_ BK448) | ((with_reducible refine gk_ 46 ?_); refine gl_ (some 8) Try.func46 #[.agg #[.slice A0_0 l0_0.length c0_0, .bool false, .int .i64 a0_2]] ?_; (with_reducible refine (gafferref02_Check.calls _ _ _ _ _ _ _ _ ?side1 ?side2 A3.out).mono ?_); (case side1 => exact cl_ (Kd.C_below HR0_0.out HB.out)); (case side2 => exact HC0_0.out); rintro e w14 ⟨rfl, hb⟩; refine ⟨_, rfl, ?_⟩; replace BK448 := bB_ BK448 hb; replace HB := hB_ (bl_1 HB GE448) hb; (try clear hb); obtain ⟨hcz15_0, hcz15_1, hcz15_2, hfz15_0, hfz15_1, hfz15_2⟩ := c3_ BK448) | ((with_reducible refine gk_ 64 ?_); refine gl_ (some 14) Try.func64 #[.agg #[.slice A0_0 l0_0.length c0_0, .bool false, .int .i64 a0_2], .string a1] ?_; (with_reducible refine (gafferref02_find.calls _ _ _ _ _ _ _ _ _ ?side1 ?side2 A10.out).mono ?_); (case side1 => exact cl_ (Kd.C_below HR0_0.out HB.out)); (case side2 => exact HC0_0.out); rintro e w16 ⟨rfl, hb⟩; refine ⟨_, rfl, ?_⟩; replace BK448 := bB_ BK448 hb; replace HB := hB_ (bl_1 HB GE448) hb; (try clear hb)))
  go_ret2
  exact ⟨fz_, bl_1 HB GE448⟩
 rw [if_neg c11] at H
 have c11b0 : decide (t450 < 0) = false := decide_eq_false c11
 clear c11
 replace H := ip_ H
 obtain ⟨-, c17b0, H⟩ := H
 replace H := ip_ H
 obtain ⟨-, c18b0, H⟩ := H
 obtain ⟨rfl, rfl⟩ := so2_ H
 go_enter Try.func41, Try.ntmps41
 go_wp2_with (first | ((with_reducible refine gd_ 2 ?_); refine bz_ 2 #[.slice A0_0 l0_0.length c0_0, .bool false, .int .i64 a0_2] 24 ?_; intro gb448 hg w19 BK448 hb; have GE448 := a_ (bs_0 hg HB); replace HB := hB_ (bl_ HB) hb; clear hb hg; obtain ⟨hcz20_0, hcz20_1, hcz20_2, hfz20_0, hfz20_1, hfz20_2⟩ := c3_ BK448) | ((with_reducible refine gk_ 46 ?_); refine gl_ (some 8) Try.func46 #[.agg #[.slice A0_0 l0_0.length c0_0, .bool false, .int .i64 a0_2]] ?_; (with_reducible refine (gafferref02_Check.calls _ _ _ _ _ _ _ _ ?side1 ?side2 A3.out).mono ?_); (case side1 => exact cl_ (Kd.C_below HR0_0.out HB.out)); (case side2 => exact HC0_0.out); rintro e w21 ⟨rfl, hb⟩; refine ⟨_, rfl, ?_⟩; replace BK448 := bB_ BK448 hb; replace HB := hB_ (bl_1 HB GE448) hb; (try clear hb); obtain ⟨hcz22_0, hcz22_1, hcz22_2, hfz22_0, hfz22_1, hfz22_2⟩ := c3_ BK448) | ((with_reducible refine gk_ 64 ?_); refine gl_ (some 14) Try.func64 #[.agg #[.slice A0_0 l0_0.length c0_0, .bool false, .int .i64 a0_2], .string a1] ?_; (with_reducible refine (gafferref02_find.calls _ _ _ _ _ _ _ _ _ ?side1 ?side2 A10.out).mono ?_); (case side1 => exact cl_ (Kd.C_below HR0_0.out HB.out)); (case side2 => exact HC0_0.out); rintro e w23 ⟨rfl, hb⟩; refine ⟨_, rfl, ?_⟩; replace BK448 := bB_ BK448 hb; replace HB := hB_ (bl_1 HB GE448) hb; (try clear hb); obtain ⟨hcz24_0, hcz24_1, hcz24_2, hfz24_0, hfz24_1, hfz24_2⟩ := c3_ BK448; have p451 : 0 ≤ (t450 : Int) := od_; have q451 : t450 < (l0_0.length : Int) := od_; obtain ⟨ad451, e451, hx451_0, hx451_1, hx451_2⟩ := at_T71 HR0_0.out t450 p451 q451; cases e451; replace hx451_0 := (HB.out.cell (World.block_lt_of_cell? w _ hx451_0)).trans hx451_0; replace hx451_1 := (HB.out.cell (World.block_lt_of_cell? w _ hx451_1)).trans hx451_1; replace hx451_2 := (HB.out.cell (World.block_lt_of_cell? w _ hx451_2)).trans hx451_2; replace p451 := eq_true p451; replace q451 := eq_true q451))
 go_ret2
 exact ⟨fz_, bl_1 HB GE448⟩
mutual
def gafferref01_Sum.l0 : Nat → ByteArray → Int → Int → Option (Int)
 | 0, _, _, _ => none
 | k + 1, x0, x3, x4 => if x4 < (x0.size : Int) then (if 0 ≤ x4 then (gafferref01_Sum.l1 k x0 (Go.bits .xor .u32 x3 ((((bt x0 x4) % 4294967296) * 256) % 4294967296)) x4 0) else (none)) else (some (IntKind.u16.wrap (x3)))
def gafferref01_Sum.l1 : Nat → ByteArray → Int → Int → Int → Option (Int)
 | 0, _, _, _, _ => none
 | k + 1, x0, x3, x4, x5 => if x5 < 8 then (if ((x3 * 2) % 4294967296) ≥ 65536 then (gafferref01_Sum.l1 k x0 (Go.bits .xor .u32 ((((x3 * 2) % 4294967296) - 65536) % 4294967296) 4129) x4 (wrap64 (x5 + 1))) else (gafferref01_Sum.l1 k x0 ((x3 * 2) % 4294967296) x4 (wrap64 (x5 + 1)))) else (gafferref01_Sum.l0 k x0 x3 (wrap64 (x4 + 1)))
end
def gafferref01_Sum.f (k : Nat) (a0 : ByteArray) : Option (Int) := gafferref01_Sum.l0 k a0 65535 0
theorem gafferref01_Sum.mono_l : ∀ k, (∀ y0 y1 y2, LeO (gafferref01_Sum.l0 k y0 y1 y2) (gafferref01_Sum.l0 (k + 1) y0 y1 y2)) ∧ (∀ y0 y1 y2 y3, LeO (gafferref01_Sum.l1 k y0 y1 y2 y3) (gafferref01_Sum.l1 (k + 1) y0 y1 y2 y3))
 | 0 => ⟨fun _ _ _ r h => by simp [gafferref01_Sum.l0] at h, fun _ _ _ _ r h => by simp [gafferref01_Sum.l1] at h⟩
 | k + 1 => by
  obtain ⟨ih0, ih1⟩ := gafferref01_Sum.mono_l k
  refine ⟨?_, ?_⟩
  ·intro y0 y1 y2
   unfold gafferref01_Sum.l0
   repeat' with_reducible first | apply ih0 | apply ih1 | apply LeO.refl | apply LeO.none | apply LeO.ite | refine LeO.bind ?_ (fun _ => ?_)
  ·intro y0 y1 y2 y3
   unfold gafferref01_Sum.l1
   repeat' with_reducible first | apply ih0 | apply ih1 | apply LeO.refl | apply LeO.none | apply LeO.ite | refine LeO.bind ?_ (fun _ => ?_)
theorem gafferref01_Sum.mono : ∀ a0 k, LeO (gafferref01_Sum.f k a0) (gafferref01_Sum.f (k + 1) a0) := by
 intro a0 k
 obtain ⟨ih0, ih1⟩ := gafferref01_Sum.mono_l k
 unfold gafferref01_Sum.f
 repeat' with_reducible first | apply ih0 | apply ih1 | apply LeO.refl | apply LeO.none | apply LeO.ite | refine LeO.bind ?_ (fun _ => ?_)
theorem gafferref01_Sum.calls (k : Nat) (a0 : ByteArray) (r : Int) (w : World) (h : gafferref01_Sum.f k a0 = some r) :
  Calls Try.prog 95 #[.string a0] w fun e w' => e = .returned (.int .u16 r) ∧ Drawn0 w w' := by
 have H := h
 unfold gafferref01_Sum.f at H
 clear h
 have H' := a_ H
 clear H
 go_enter Try.func95, Try.ntmps95
 go_wp2
 go_loopg [3, 4] k (fun kq v3 v4 w' => ∃ (x3_1 : Int) (x4_1 : Int), v3 = .int .u32 x3_1 ∧ v4 = .int .i64 x4_1 ∧ Aside0 (gafferref01_Sum.l0 kq a0 x3_1 x4_1 = some r) ∧ Aside0 (kq ≤ k) ∧ Drawn0 w w')
 case atStart => exact ⟨(65535), (0), fz_, fz_, H', ⟨Nat.le_refl _⟩, dr_⟩
 case round =>
  clear H'
  obtain ⟨x3_1, x4_1, rfl, rfl, HA, HK1, ⟨m1, rfl⟩⟩ := hrel
  cases gk with
  | zero => exact absurd HA.out (by simp [gafferref01_Sum.l0])
  | succ k1 =>
   have H := HA.out
   clear HA
   simp only [gafferref01_Sum.l0] at H
   by_cases c2 : x4_1 < (a0.size : Int)
   rotate_left
   ·rw [if_neg c2] at H
    have c2b0 : decide (x4_1 < (a0.size : Int)) = false := decide_eq_false c2
    clear c2
    obtain rfl := Option.some.inj H
    go_wp2
    go_ret
    exact ⟨fz_, dr_⟩


   rw [if_pos c2] at H
   have c2b0 : decide (x4_1 < (a0.size : Int)) = true := decide_eq_true c2
   clear c2
   replace H := ip_ H
   obtain ⟨-, c3b0, H⟩ := H
   have H' := a_ H
   clear H
   have p4 : 0 ≤ (x4_1 : Int) := od_
   have q4 : x4_1 < (a0.size : Int) := od_
   have hx4 := bt_at a0 x4_1
   replace p4 := eq_true p4
   replace q4 := eq_true q4
   go_wp2
   go_loopg [3, 5] k1 (fun kq v3 v5 w' => ∃ (x3_2 : Int) (x5_2 : Int), v3 = .int .u32 x3_2 ∧ v5 = .int .i64 x5_2 ∧ Aside0 (gafferref01_Sum.l1 kq a0 x3_2 x4_1 x5_2 = some r) ∧ Aside0 (kq ≤ k1) ∧ Drawn0 w w')
   case atStart => exact ⟨(Go.bits .xor .u32 x3_1 ((((bt a0 x4_1) % 4294967296) * 256) % 4294967296)), (0), fz_, fz_, H', ⟨Nat.le_refl _⟩, dr_⟩
   case round =>
    clear H'
    try clear c2
    try clear c2b0
    try clear c3b0
    try clear p4
    try clear q4
    try clear hx4
    try clear p4
    try clear q4
    obtain ⟨x3_2, x5_2, rfl, rfl, HA, HK2, ⟨m2, rfl⟩⟩ := hrel
    cases gk with
    | zero => exact absurd HA.out (by simp [gafferref01_Sum.l1])
    | succ k2 =>
     have H := HA.out
     clear HA
     simp only [gafferref01_Sum.l1] at H
     by_cases c5 : x5_2 < 8
     rotate_left
     ·rw [if_neg c5] at H
      have c5b0 : decide (x5_2 < 8) = false := decide_eq_false c5
      clear c5
      have H' := a_ H
      clear H
      go_wp2
      go_roundg k2
      case measure => have := HK1.out; have := HK2.out; omega
      case rel => exact ⟨(x3_2), (wrap64 (x4_1 + 1)), fz_, fz_, H', ⟨by have := HK1.out; have := HK2.out; omega⟩, dr_⟩
     rw [if_pos c5] at H
     have c5b0 : decide (x5_2 < 8) = true := decide_eq_true c5
     clear c5
     by_cases c6 : ((x3_2 * 2) % 4294967296) ≥ 65536
     rotate_left
     ·rw [if_neg c6] at H
      have c6b0 : decide (65536 ≤ ((x3_2 * 2) % 4294967296)) = false := decide_eq_false c6
      clear c6
      have H' := a_ H
      clear H
      go_wp2
      go_roundg k2
      case measure => have := HK1.out; have := HK2.out; omega
      case rel => exact ⟨((x3_2 * 2) % 4294967296), (wrap64 (x5_2 + 1)), fz_, fz_, H', ⟨by have := HK1.out; have := HK2.out; omega⟩, dr_⟩
     rw [if_pos c6] at H
     have c6b0 : decide (65536 ≤ ((x3_2 * 2) % 4294967296)) = true := decide_eq_true c6
     clear c6
     have H' := a_ H
     clear H
     go_wp2
     go_roundg k2
     case measure => have := HK1.out; have := HK2.out; omega
     case rel => exact ⟨(Go.bits .xor .u32 ((((x3_2 * 2) % 4294967296) - 65536) % 4294967296) 4129), (wrap64 (x5_2 + 1)), fz_, fz_, H', ⟨by have := HK1.out; have := HK2.out; omega⟩, dr_⟩
def gafferref01_check.f (k : Nat) (a0 : ByteArray) : Option (ByteArray) := (gafferref01_Sum.f k a0).bind fun t452 => (some (strOfNums (([(IntKind.u16.wrap (Int.tdiv t452 256)) % 256, (t452) % 256] : List Int))))
theorem gafferref01_check.mono : ∀ a0 k, LeO (gafferref01_check.f k a0) (gafferref01_check.f (k + 1) a0) := by
 intro a0 k
 unfold gafferref01_check.f
 repeat' with_reducible first | apply gafferref01_Sum.mono | apply LeO.refl | apply LeO.none | apply LeO.ite | refine LeO.bind ?_ (fun _ => ?_)
theorem gafferref01_check.calls (k : Nat) (a0 : ByteArray) (r : ByteArray) (w : World) (h : gafferref01_check.f k a0 = some r) :
  Calls Try.prog 65 #[.string a0] w fun e w' => e = .returned (.string r) ∧ Below w.heap.size w w' := by
 have HB := a_ (Below.refl w.heap.size w)
 have H := h
 unfold gafferref01_check.f at H
 clear h
 obtain ⟨t452, A2, H⟩ := ob_ H
 try dsimp only at H
 obtain ⟨y453, hy453⟩ : ∃ y_ : List Int, y_ = (([(IntKind.u16.wrap (Int.tdiv t452 256)) % 256, (t452) % 256] : List Int)) := ⟨_, rfl⟩
 replace H : (some (strOfNums y453)) = some r := by first | (rw [hy453]; with_reducible exact H) | (have H2_ := (Option.bind_some _ _).symm.trans H; rw [hy453]; with_reducible exact H2_) | (have H2_ := (Option.bind_some _ _).symm.trans H; with_reducible exact H2_) | with_reducible exact H | (rw [hy453]; exact H) | exact H
 have Ny453 := a_ hy453
 clear hy453
 obtain rfl := Option.some.inj H
 go_enter Try.func65, Try.ntmps65
 go_wp2_with (first | ((with_reducible refine gk_ 95 ?_); refine gl_ (some 5) Try.func95 #[.string a0] ?_; (with_reducible refine (gafferref01_Sum.calls _ _ _ _ A2.out).mono ?_); rintro e w' ⟨rfl, ⟨nd, rfl⟩⟩; refine ⟨_, rfl, ?_⟩) | ((with_reducible refine gd_ 11 ?_); refine Kd.R_lit (Kd.int .u8) _ 5 ?hg (N := 11) ?hd (xs := ([(IntKind.u16.wrap (Int.tdiv t452 256)) % 256, (t452) % 256] : List Int)) (inner := [.int .u8 ((IntKind.u16.wrap (Int.tdiv t452 256)) % 256), .int .u8 ((t452) % 256)]) (ok := fun _ => True) (okp := fun _ => True) ?hr ?hp (fun _ hk => hk) trivial (Below.refl _ _) (Nat.le_refl _) (by simp) ?_; (case hd => rfl); (case hg => rfl); (case hr => first | (go_simp; done) | (go_simp; rfl)); (case hp => exact (Reps.one (show Kd.M (Kd.int .u8) _ _ _ ((IntKind.u16.wrap (Int.tdiv t452 256)) % 256) [.int .u8 ((IntKind.u16.wrap (Int.tdiv t452 256)) % 256)] from rfl) (Reps.one (show Kd.M (Kd.int .u8) _ _ _ ((t452) % 256) [.int .u8 ((t452) % 256)] from rfl) (Reps.none _ _)))); intro v454 w3 ho4 hb hg_ hnew_; clear hg_ hnew_; (first | rw [← Ny453.out] at ho4 | (simp only [Int.reduceToNat] at ho4; rw [← Ny453.out] at ho4)); have HO455 := a_ (Kd.R_lower ho4 (below_size (bl_ HB))); replace HB := hB_ (bl_ HB) hb; clear hb ho4; have hcv5 := own_string (P := Try.prog) Try.underlying111 Try.underlying5 Try.underlying9 (Kd.own_of_R HO455.out)))
 go_ret
 exact ⟨fz_, bl_ HB⟩

def gafferref01_TakeFrame.l0 : Nat → ByteArray → Int → Int → Option (ByteArray × ByteArray × Int)
 | 0, _, _, _ => none
 | k + 1, x0, x5, x6 => if x6 < 4 then (if 0 ≤ x6 then (if x6 < (x0.size : Int) then (gafferref01_TakeFrame.l0 k x0 (IntKind.u64.wrap ((IntKind.u64.wrap (256 * x5)) + (IntKind.u64.wrap (bt x0 x6)))) (wrap64 (x6 + 1))) else (none)) else (none)) else (if x5 > 65536 then (some ((⟨#[]⟩ : ByteArray), (⟨#[]⟩ : ByteArray), 2)) else (if (IntKind.u64.wrap ((x0.size : Int))) < (IntKind.u64.wrap (x5 + 6)) then (some ((⟨#[]⟩ : ByteArray), (⟨#[]⟩ : ByteArray), 3)) else (if 6 ≤ (IntKind.u64.wrap (x5 + 6)) then (if (IntKind.u64.wrap (x5 + 6)) ≤ (x0.size : Int) then (if 0 ≤ 4 then (if 4 ≤ (x0.size : Int) then (if (x0.extract 0 4).size + (x0.extract 6 ((IntKind.u64.wrap (x5 + 6)) : Int).toNat).size ≤ 9223372036854775807 then ((gafferref01_check.f k ((x0.extract 0 4) ++ (x0.extract 6 ((IntKind.u64.wrap (x5 + 6)) : Int).toNat))).bind fun t456 => (if 4 ≤ 6 then (if 6 ≤ (x0.size : Int) then (if t456.toList = (x0.extract 4 6).toList then (if 0 ≤ (IntKind.u64.wrap (x5 + 6)) then (some (x0.extract 6 ((IntKind.u64.wrap (x5 + 6)) : Int).toNat, x0.extract ((IntKind.u64.wrap (x5 + 6)) : Int).toNat x0.size, 0)) else (none)) else (some ((⟨#[]⟩ : ByteArray), (⟨#[]⟩ : ByteArray), 4))) else (none)) else (none))) else (none)) else (none)) else (none)) else (none)) else (none))))
def gafferref01_TakeFrame.f (k : Nat) (a0 : ByteArray) : Option (ByteArray × ByteArray × Int) := if (a0.size : Int) < 4 then (some ((⟨#[]⟩ : ByteArray), (⟨#[]⟩ : ByteArray), 3)) else (gafferref01_TakeFrame.l0 k a0 0 0)
theorem gafferref01_TakeFrame.mono_l : ∀ k, (∀ y0 y1 y2, LeO (gafferref01_TakeFrame.l0 k y0 y1 y2) (gafferref01_TakeFrame.l0 (k + 1) y0 y1 y2))
 | 0 => fun _ _ _ r h => by simp [gafferref01_TakeFrame.l0] at h
 | k + 1 => by
  have ih0 := gafferref01_TakeFrame.mono_l k
  ·intro y0 y1 y2
   unfold gafferref01_TakeFrame.l0
   repeat' with_reducible first | apply ih0 | apply gafferref01_check.mono | apply LeO.refl | apply LeO.none | apply LeO.ite | refine LeO.bind ?_ (fun _ => ?_)
theorem gafferref01_TakeFrame.mono : ∀ a0 k, LeO (gafferref01_TakeFrame.f k a0) (gafferref01_TakeFrame.f (k + 1) a0) := by
 intro a0 k
 have ih0 := gafferref01_TakeFrame.mono_l k
 unfold gafferref01_TakeFrame.f
 repeat' with_reducible first | apply ih0 | apply gafferref01_check.mono | apply LeO.refl | apply LeO.none | apply LeO.ite | refine LeO.bind ?_ (fun _ => ?_)
def gafferref01_TakeFrame.T13 : Bool × List (List Nat × List Nat) := (true, [([], []), ([0], [0]), ([], []), ([1, 2], [1, 2]), ([3], [3]), ([], []), ([5], [5]), ([4, 6], [4, 6])])
def gafferref01_TakeFrame.B13 : List Nat := [0, 1, 0, 7, 15, 0, 32, 127]
theorem gafferref01_TakeFrame.tab13 : rtab .any (opsOf Try.f42 13) = gafferref01_TakeFrame.T13 := by kernel_rfl
theorem gafferref01_TakeFrame.bits13 : waitsOk gafferref01_TakeFrame.T13.2 gafferref01_TakeFrame.B13 = true := by kernel_rfl
def gafferref01_TakeFrame.T15 : Bool × List (List Nat × List Nat) := (true, [([], []), ([], []), ([], []), ([2], [2]), ([1, 3], [1, 3]), ([0, 0], [0]), ([4, 5, 0, 1, 2, 3, 4, 5], [4]), ([6, 0, 1, 2, 3, 4, 5, 6], [])])
def gafferref01_TakeFrame.B15 : List Nat := [0, 0, 0, 4, 14, 1, 63, 127]
theorem gafferref01_TakeFrame.tab15 : rtab .any (opsOf Try.f42 15) = gafferref01_TakeFrame.T15 := by kernel_rfl
theorem gafferref01_TakeFrame.bits15 : waitsOk gafferref01_TakeFrame.T15.2 gafferref01_TakeFrame.B15 = true := by kernel_rfl
theorem gafferref01_TakeFrame.calls (k : Nat) (a0 : ByteArray) (r1 : ByteArray) (r2 : ByteArray) (r3 : Int) (w : World) (h : gafferref01_TakeFrame.f k a0 = some (r1, r2, r3)) :
  Calls Try.prog 42 #[.string a0] w fun e w' => e = .returned (.tuple #[.string r1, .string r2, .int .i64 r3]) ∧ Below w.heap.size w w' := by
 have HB := a_ (Below.refl w.heap.size w)
 have H := h
 unfold gafferref01_TakeFrame.f at H
 clear h
 by_cases c2 : (a0.size : Int) < 4
 ·rw [if_pos c2] at H
  have c2b0 : decide ((a0.size : Int) < 4) = true := decide_eq_true c2
  have c2b1 : decide (a0.size < 4) = true := decide_eq_true (by omega)
  clear c2
  obtain ⟨rfl, rfl, rfl⟩ := so3_ H
  go_enter Try.func42, Try.ntmps42
  go_wp2
  go_ret3
  exact ⟨fz_, bl_ HB⟩
 rw [if_neg c2] at H
 have c2b0 : decide ((a0.size : Int) < 4) = false := decide_eq_false c2
 have c2b1 : decide (a0.size < 4) = false := decide_eq_false (by omega)
 clear c2
 have H' := a_ H
 clear H
 go_enter Try.func42, Try.ntmps42
 go_wp2
 go_loopg [5, 6] k (fun kq v5 v6 w' => ∃ (x5_1 : Int) (x6_1 : Int), v5 = .int .u64 x5_1 ∧ v6 = .int .i64 x6_1 ∧ Aside0 (gafferref01_TakeFrame.l0 kq a0 x5_1 x6_1 = some (r1, r2, r3)) ∧ Aside0 (kq ≤ k) ∧ Aside0 (Below w.heap.size w w'))
 case atStart => exact ⟨(0), (0), fz_, fz_, H', ⟨Nat.le_refl _⟩, ⟨bl_ HB⟩⟩
 case round =>
  clear H'
  try clear c2
  try clear c2b0
  try clear c2b1
  obtain ⟨x5_1, x6_1, rfl, rfl, HA, HK1, HB⟩ := hrel
  cases gk with
  | zero => exact absurd HA.out (by simp [gafferref01_TakeFrame.l0])
  | succ k1 =>
   have H := HA.out
   clear HA
   simp only [gafferref01_TakeFrame.l0] at H
   by_cases c3 : x6_1 < 4
   ·rw [if_pos c3] at H
    have c3b0 : decide (x6_1 < 4) = true := decide_eq_true c3
    clear c3
    replace H := ip_ H
    obtain ⟨-, c4b0, H⟩ := H
    replace H := ip_ H
    obtain ⟨-, c5b0, H⟩ := H
    have H' := a_ H
    clear H
    have p6 : 0 ≤ (x6_1 : Int) := od_
    have q6 : x6_1 < (a0.size : Int) := od_
    have hx6 := bt_at a0 x6_1
    replace p6 := eq_true p6
    replace q6 := eq_true q6
    go_wp2
    go_roundg k1
    case measure => have := HK1.out; omega
    case rel => exact ⟨(IntKind.u64.wrap ((IntKind.u64.wrap (256 * x5_1)) + (IntKind.u64.wrap (bt a0 x6_1)))), (wrap64 (x6_1 + 1)), fz_, fz_, H', ⟨by have := HK1.out; omega⟩, ⟨bl_ HB⟩⟩
   rw [if_neg c3] at H
   have c3b0 : decide (x6_1 < 4) = false := decide_eq_false c3
   clear c3
   by_cases c7 : x5_1 > 65536
   ·rw [if_pos c7] at H
    have c7b0 : decide (65536 < x5_1) = true := decide_eq_true c7
    clear c7
    obtain ⟨rfl, rfl, rfl⟩ := so3_ H
    go_wp2
    go_ret3
    exact ⟨fz_, bl_ HB⟩
   rw [if_neg c7] at H
   have c7b0 : decide (65536 < x5_1) = false := decide_eq_false c7
   clear c7
   by_cases c8 : (IntKind.u64.wrap ((a0.size : Int))) < (IntKind.u64.wrap (x5_1 + 6))
   ·rw [if_pos c8] at H
    have c8b0 : decide ((IntKind.u64.wrap ((a0.size : Int))) < (IntKind.u64.wrap (x5_1 + 6))) = true := decide_eq_true c8
    clear c8
    obtain ⟨rfl, rfl, rfl⟩ := so3_ H
    go_wp2
    go_ret3
    exact ⟨fz_, bl_ HB⟩
   rw [if_neg c8] at H
   have c8b0 : decide ((IntKind.u64.wrap ((a0.size : Int))) < (IntKind.u64.wrap (x5_1 + 6))) = false := decide_eq_false c8
   clear c8
   by_cases c9 : 6 ≤ (IntKind.u64.wrap (x5_1 + 6))
   rotate_left
   ·rw [if_neg c9] at H
    exact absurd H (by simp)


   rw [if_pos c9] at H
   have c9b0 := eq_true c9
   have c9b1 : decide (6 ≤ (IntKind.u64.wrap (x5_1 + 6))) = true := decide_eq_true c9
   clear c9
   replace H := iq_ H
   obtain ⟨c10, H⟩ := H
   have c10b0 := eq_true c10
   have c10b1 : decide ((IntKind.u64.wrap (x5_1 + 6)) ≤ (a0.size : Int)) = true := decide_eq_true c10
   clear c10
   replace H := iq_ H
   obtain ⟨c11, H⟩ := H
   have c11b0 := eq_true c11
   have c11b1 : decide (0 ≤ 4) = true := decide_eq_true c11
   clear c11
   replace H := iq_ H
   obtain ⟨c12, H⟩ := H
   have c12b0 := eq_true c12
   have c12b1 : decide (4 ≤ (a0.size : Int)) = true := decide_eq_true c12
   clear c12
   replace H := iq_ H
   obtain ⟨c13, H⟩ := H
   have c13b0 := eq_true c13
   have c13b1 : decide ((a0.extract 0 4).size + (a0.extract 6 ((IntKind.u64.wrap (x5_1 + 6)) : Int).toNat).size ≤ 9223372036854775807) = true := decide_eq_true c13
   try have c13b2 : (9223372036854775807 < (a0.extract 0 4).size + (a0.extract 6 ((IntKind.u64.wrap (x5_1 + 6)) : Int).toNat).size) = False := eq_false (Nat.not_lt.2 c13)
   clear c13
   obtain ⟨t456, A14, H⟩ := ob_ H
   try dsimp only at H
   replace H := iq_ H
   obtain ⟨c15, H⟩ := H
   have c15b0 := eq_true c15
   have c15b1 : decide (4 ≤ 6) = true := decide_eq_true c15
   clear c15
   replace H := iq_ H
   obtain ⟨c16, H⟩ := H
   have c16b0 := eq_true c16
   have c16b1 : decide (6 ≤ (a0.size : Int)) = true := decide_eq_true c16
   clear c16
   by_cases c17 : t456.toList = (a0.extract 4 6).toList
   rotate_left
   ·rw [if_neg c17] at H
    obtain ⟨c17b0, c17b1⟩ := bn_ c17
    obtain ⟨rfl, rfl, rfl⟩ := so3_ H
    try go_wp2
    have n0_ := a_ (below_drew1 HB.out)
    clear HB
    have HB := n0_
    clear n0_
    refine start_ (n := 8) (S := fun w' => True) (ds := []) #[false, false, false, false, false, false, false, false] (by kernel_rfl) rfl rfl trivial (fun hHeld => ?_); refine with_tabW gafferref01_TakeFrame.tab13 gafferref01_TakeFrame.bits13 (fun HT_ HW_ => ?_)
    generalize wr.drew = w24 at HB hHeld ⊢
    refine py_ HT_ 0 (some 34) ?_
    refine py_ HT_ 1 (some 35) ?_
    refine py_ HT_ 2 (some 36) ?_
    refine py_ HT_ 3 (some 37) ?_
    refine py_ HT_ 5 (some 39) ?_
    refine py_ HT_ 6 (some 40) ?_
    refine on_ HT_ 4 (some 38) (fun K hK => ?_)
    refine goes_ Try.func65 (by kernel_rfl) rfl #[.string ((a0.extract 0 4) ++ (a0.extract 6 ((IntKind.u64.wrap (x5_1 + 6)) : Int).toNat))] (by rfl) rfl rfl (ar_) ?_
    with_reducible refine (gafferref01_check.calls _ _ _ _ A14.out).mono ?_
    rintro e w25 ⟨rfl, hb⟩
    refine ⟨_, rfl, ?_⟩
    have n0_ := hB_ (bl_ HB) hb
    clear HB
    have HB := n0_
    clear n0_
    (try clear hb)
    (try clear hb2)
    (try clear hk)
    (try clear hi)
    refine hK.out _ _ trivial (fun hHeld => ?_)
    clear hK K
    refine nop_ ?_
    refine py_ HT_ 7 (some 41) ?_
    refine done_ (done_of HT_.out (by kernel_rfl)) ?_
    try go_wp2
    go_ret3
    exact ⟨fz_, bl_ HB⟩
   rw [if_pos c17] at H
   obtain ⟨c17b0, c17b1⟩ := be_ c17
   clear c17
   obtain ⟨ji18, hji18⟩ : ∃ j_ : Int, (IntKind.u64.wrap (x5_1 + 6)) = j_ := ⟨_, rfl⟩
   replace H : (if 0 ≤ (ji18) then (some (a0.extract 6 ((ji18) : Int).toNat, a0.extract ((ji18) : Int).toNat a0.size, 0)) else (none)) = some (r1, r2, r3) := by first | (rw [hji18] at H; exact H) | (simp only [hji18] at H ⊢; exact H)
   (try rw [hji18] at c8b0)
   (try rw [hji18] at c9b0)
   (try rw [hji18] at c9b1)
   (try rw [hji18] at c10b0)
   (try rw [hji18] at c10b1)
   (try rw [hji18] at c13b0)
   (try rw [hji18] at c13b1)
   (try rw [hji18] at A14)
   replace H := iq_ H
   obtain ⟨c19, H⟩ := H
   have c19b0 := eq_true c19
   have c19b1 : decide (0 ≤ (ji18)) = true := decide_eq_true c19
   clear c19
   have c20b0 := eq_true (od_ : (ji18) ≤ (a0.size : Int))
   obtain ⟨rfl, rfl, rfl⟩ := so3_ H
   try go_wp2
   have n0_ := a_ (below_drew1 HB.out)
   clear HB
   have HB := n0_
   clear n0_
   refine start_ (n := 8) (S := fun w' => True) (ds := []) #[false, false, false, false, false, false, false, false] (by kernel_rfl) rfl rfl trivial (fun hHeld => ?_); refine with_tabW gafferref01_TakeFrame.tab13 gafferref01_TakeFrame.bits13 (fun HT_ HW_ => ?_)
   generalize wr.drew = w21 at HB hHeld ⊢
   refine py_ HT_ 0 (some 34) ?_
   refine py_ HT_ 1 (some 35) ?_
   refine py_ HT_ 2 (some 36) ?_
   refine py_ HT_ 3 (some 37) ?_
   refine py_ HT_ 5 (some 39) ?_
   refine py_ HT_ 6 (some 40) ?_
   refine on_ HT_ 4 (some 38) (fun K hK => ?_)
   refine goes_ Try.func65 (by kernel_rfl) rfl #[.string ((a0.extract 0 4) ++ (a0.extract 6 ((ji18) : Int).toNat))] (by rfl) rfl rfl (by (try simp only [List.map_toArray, List.map_cons, List.map_nil]); first | done | (simp only [hji18]; rfl) | rfl | (simp only [List.length_drop, List.length_take]; rfl)) ?_
   with_reducible refine (gafferref01_check.calls _ _ _ _ A14.out).mono ?_
   rintro e w22 ⟨rfl, hb⟩
   refine ⟨_, rfl, ?_⟩
   have n0_ := hB_ (bl_ HB) hb
   clear HB
   have HB := n0_
   clear n0_
   (try clear hb)
   (try clear hb2)
   (try clear hk)
   (try clear hi)
   refine hK.out _ _ trivial (fun hHeld => ?_)
   clear hK K
   refine nop_ ?_
   refine py_ HT_ 7 (some 41) ?_
   refine done_ (done_of HT_.out (by kernel_rfl)) ?_
   try go_wp2
   have n0_ := a_ (below_drew1 HB.out)
   clear HB
   have HB := n0_
   clear n0_
   refine start_ (n := 8) (S := fun w' => True) (ds := []) #[false, false, false, false, false, false, false, false] (by kernel_rfl) rfl rfl trivial (fun hHeld => ?_); refine with_tabW gafferref01_TakeFrame.tab15 gafferref01_TakeFrame.bits15 (fun HT_ HW_ => ?_)
   generalize w22.drew = w23 at HB hHeld ⊢
   refine py_ HT_ 0 (some 42) ?_
   refine py_ HT_ 1 (some 43) ?_
   refine py_ HT_ 2 (some 44) ?_
   refine py_ HT_ 3 (some 45) ?_
   refine py_ HT_ 4 (some 46) ?_
   refine py_ HT_ 5 (some 2) ?_
   refine py_ HT_ 6 (some 3) ?_
   refine py_ HT_ 7 (some 4) ?_
   refine done_ (done_of HT_.out (by kernel_rfl)) ?_
   try go_wp2
   go_ret3
   exact ⟨by first | rfl | (simp [errW_none, errW_some] <;> rfl) | (simp only [← hji18]; first | rfl | (simp [errW_none, errW_some] <;> rfl)) | (simp [*, errW_none, errW_some] <;> rfl), bl_ HB⟩
def gafferref05_Load.f (k : Nat) (l0_0 : List (S71)) (a0_1 : Bool) (a0_2 : Int) : Option (Int × Int × List Int × ByteArray × Int) := (gafferref02_Read.f k l0_0 a0_1 a0_2 (⟨#[115, 110, 97, 112]⟩ : ByteArray)).bind fun bt459 => (if bt459.2 = 6 then (some (0, 0, ([] : List Int), (⟨#[]⟩ : ByteArray), 0)) else (if bt459.2 = 0 then ((gafferref01_TakeFrame.f k bt459.1).bind fun bt461 => ((gafferref05_Decode.f k bt461.1).bind fun bt464 => (if bt461.2.2 = 0 then (if bt464.2.2.2.2 = 0 then (if bt461.2.1.toList = ([] : List UInt8) then (some (bt464.1, bt464.2.1, bt464.2.2.1, bt464.2.2.2.1, 0)) else (some (0, 0, ([] : List Int), (⟨#[]⟩ : ByteArray), 4))) else (some (0, 0, ([] : List Int), (⟨#[]⟩ : ByteArray), 4))) else (some (0, 0, ([] : List Int), (⟨#[]⟩ : ByteArray), 4))))) else (some (0, 0, ([] : List Int), (⟨#[]⟩ : ByteArray), bt459.2))))
theorem gafferref05_Load.mono : ∀ a0 a1 a2 k, LeO (gafferref05_Load.f k a0 a1 a2) (gafferref05_Load.f (k + 1) a0 a1 a2) := by
 intro a0 a1 a2 k
 unfold gafferref05_Load.f
 repeat' with_reducible first | apply gafferref01_TakeFrame.mono | apply gafferref02_Read.mono | apply gafferref05_Decode.mono | apply LeO.refl | apply LeO.none | apply LeO.ite | refine LeO.bind ?_ (fun _ => ?_)
theorem gafferref05_Load.calls (k : Nat) (A0_0 : Option Addr) (c0_0 : Nat) (l0_0 : List (S71)) (a0_1 : Bool) (a0_2 : Int) (r1 : Int) (r2 : Int) (r3 : List Int) (r4 : ByteArray) (r5 : Int) (w : World) (hr0_0 : Kd.C k71 w A0_0 l0_0.length l0_0) (hc0_0 : l0_0.length ≤ c0_0) (h : gafferref05_Load.f k l0_0 a0_1 a0_2 = some (r1, r2, r3, r4, r5)) :
  Calls Try.prog 34 #[.agg #[.slice A0_0 l0_0.length c0_0, .bool a0_1, .int .i64 a0_2]] w fun e w' => ∃ v2_ : Value, e = .returned (.tuple #[.agg #[.int .u64 r1, .int .u64 r2, v2_, .string r4], .int .i64 r5]) ∧ Kd.R (Kd.int .i64) 3 w' w.heap.size (fun _ => True) v2_ r3 ∧ Below w.heap.size w w' := by
 have hu_1 := Try.underlying24
 have hu_2 := Try.underlying48
 have HR_1 := a_ hr0_0
 have HC_1 := a_ hc0_0
 clear hr0_0 hc0_0
 have HB := a_ (Below.refl w.heap.size w)
 have H := h
 unfold gafferref05_Load.f at H
 clear h
 obtain ⟨⟨t_1, t_2⟩, A_2, H⟩ := ob_ H
 try dsimp only at H
 by_cases c_1 : t_2 = 6
 focus
  rw [if_pos c_1] at H
  obtain ⟨c_2, c_3⟩ := be_ c_1
  clear c_1
  obtain ⟨rfl, rfl, rfl, rfl, rfl⟩ := so5_ H
  have L0_ := trivial
 rotate_left
 focus
  rw [if_neg c_1] at H
  obtain ⟨c_2, c_3⟩ := bn_ c_1
  by_cases c_4 : t_2 = 0
  rotate_left
  focus
   rw [if_neg c_4] at H
   obtain ⟨c_5, c_6⟩ := bn_ c_4
   obtain ⟨rfl, rfl, rfl, rfl, rfl⟩ := so5_ H
   have L0_ := trivial
  rotate_left
  focus
   rw [if_pos c_4] at H
   obtain ⟨c_5, c_6⟩ := be_ c_4
   clear c_4
   obtain ⟨⟨t_3, t_4, t_5⟩, A_4, H⟩ := ob_ H
   try dsimp only at H
   obtain ⟨⟨t_6, t_7, t_8, t_9, t_10⟩, A_6, H⟩ := ob_ H
   try dsimp only at H
   by_cases c_7 : t_5 = 0
   rotate_left
   focus
    rw [if_neg c_7] at H
    obtain ⟨c_8, c_9⟩ := bn_ c_7
    obtain ⟨rfl, rfl, rfl, rfl, rfl⟩ := so5_ H
    have L1_ := trivial
   rotate_left
   focus
    rw [if_pos c_7] at H
    obtain ⟨c_8, c_9⟩ := be_ c_7
    clear c_7
    by_cases c_10 : t_10 = 0
    rotate_left
    focus
     rw [if_neg c_10] at H
     obtain ⟨c_11, c_12⟩ := bn_ c_10
     obtain ⟨rfl, rfl, rfl, rfl, rfl⟩ := so5_ H
     have L1_ := trivial
    rotate_left
    focus
     rw [if_pos c_10] at H
     obtain ⟨c_11, c_12⟩ := be_ c_10
     clear c_10
     by_cases c_13 : t_4.toList = ([] : List UInt8)
     rotate_left
     focus
      rw [if_neg c_13] at H
      obtain ⟨c_14, c_15⟩ := bn_ c_13
      obtain ⟨rfl, rfl, rfl, rfl, rfl⟩ := so5_ H
      have L1_ := trivial
     rotate_left
     rw [if_pos c_13] at H
     obtain ⟨c_14, c_15⟩ := be_ c_13
     clear c_13
     obtain ⟨rfl, rfl, rfl, rfl, rfl⟩ := so5_ H
     have L2_ := trivial
 all_goals
  go_enter Try.func34, Try.ntmps34
  first
  | (have _ := L0_
     go_wp2_with (first | ((with_reducible refine gd_ 1 ?_); refine bz_ 1 #[.slice A0_0 l0_0.length c0_0, .bool a0_1, .int .i64 a0_2] 24 ?_; intro gb_1 hg w_1 BK_1 hb; have GE_1 := a_ (bs_0 hg HB); replace HB := hB_ (bl_ HB) hb; clear hb hg) | ((with_reducible refine gd_ 2 ?_); refine bz_ 2 #[.int .u64 0, .int .u64 0, .slice none 0 0, .string (⟨#[]⟩ : ByteArray)] 48 ?_; intro gb_2 hg w_2 BK_2 hb; have GE_2 := a_ (bs_1 hg HB GE_1); replace HB := hB_ (bl_1 HB GE_1) hb; have NB_1 := nB_ hg BK_1; have NB_2 := nC_ hg BK_1; replace BK_1 := bB_ BK_1 hb; clear hb hg; have := NB_1.out; have := NB_2.out; obtain ⟨_, _, _, _, _, _⟩ := c3_ BK_1) | ((with_reducible refine gk_ 41 ?_); refine gl_ (some 12) Try.func41 #[.agg #[.slice A0_0 l0_0.length c0_0, .bool a0_1, .int .i64 a0_2], .string (⟨#[115, 110, 97, 112]⟩ : ByteArray)] ?_; (with_reducible refine (gafferref02_Read.calls _ _ _ _ _ _ _ _ _ _ ?side1 ?side2 A_2.out).mono ?_); (case side1 => exact cl_ (Kd.C_below HR_1.out HB.out)); (case side2 => exact HC_1.out); rintro e w_3 ⟨rfl, hb⟩; refine ⟨_, rfl, ?_⟩; replace BK_1 := bB_ BK_1 hb; replace BK_2 := bB_ BK_2 hb; replace HB := hB_ (bl_2 HB GE_1 GE_2) hb; (try clear hb); obtain ⟨_, _, _, _, _, _, _, _⟩ := c4_ BK_2))
     refine bodyPost_ret (results_ct rfl _ _ gb_2 48 #[.int .u64 0, .int .u64 0, .slice none 0 0, .string (⟨#[]⟩ : ByteArray)] (0, 0) _ rfl (bp_0 BK_2) Try.underlying48 rfl (by kernel_rfl)) rfl ?_
     exact ⟨_, fz_, nl_, bl_2 HB GE_1 GE_2⟩)
  | (have _ := L1_
     go_wp2_with (first | ((with_reducible refine gd_ 1 ?_); refine bz_ 1 #[.slice A0_0 l0_0.length c0_0, .bool a0_1, .int .i64 a0_2] 24 ?_; intro gb_1 hg w_1 BK_1 hb; have GE_1 := a_ (bs_0 hg HB); replace HB := hB_ (bl_ HB) hb; clear hb hg) | ((with_reducible refine gd_ 2 ?_); refine bz_ 2 #[.int .u64 0, .int .u64 0, .slice none 0 0, .string (⟨#[]⟩ : ByteArray)] 48 ?_; intro gb_2 hg w_2 BK_2 hb; have GE_2 := a_ (bs_1 hg HB GE_1); replace HB := hB_ (bl_1 HB GE_1) hb; have NB_1 := nB_ hg BK_1; have NB_2 := nC_ hg BK_1; replace BK_1 := bB_ BK_1 hb; clear hb hg; have := NB_1.out; have := NB_2.out; obtain ⟨_, _, _, _, _, _⟩ := c3_ BK_1) | ((with_reducible refine gk_ 41 ?_); refine gl_ (some 12) Try.func41 #[.agg #[.slice A0_0 l0_0.length c0_0, .bool a0_1, .int .i64 a0_2], .string (⟨#[115, 110, 97, 112]⟩ : ByteArray)] ?_; (with_reducible refine (gafferref02_Read.calls _ _ _ _ _ _ _ _ _ _ ?side1 ?side2 A_2.out).mono ?_); (case side1 => exact cl_ (Kd.C_below HR_1.out HB.out)); (case side2 => exact HC_1.out); rintro e w_3 ⟨rfl, hb⟩; refine ⟨_, rfl, ?_⟩; replace BK_1 := bB_ BK_1 hb; replace BK_2 := bB_ BK_2 hb; replace HB := hB_ (bl_2 HB GE_1 GE_2) hb; (try clear hb)) | ((with_reducible refine gk_ 42 ?_); refine gl_ (some 24) Try.func42 #[.string t_1] ?_; (with_reducible refine (gafferref01_TakeFrame.calls _ _ _ _ _ _ A_4.out).mono ?_); rintro e w_4 ⟨rfl, hb⟩; refine ⟨_, rfl, ?_⟩; replace BK_1 := bB_ BK_1 hb; replace BK_2 := bB_ BK_2 hb; replace HB := hB_ (bl_2 HB GE_1 GE_2) hb; (try clear hb)) | ((with_reducible refine gk_ 28 ?_); refine gl_ (some 30) Try.func28 #[.string t_3] ?_; (with_reducible refine (gafferref05_Decode.calls _ _ _ _ _ _ _ _ A_6.out).mono ?_); rintro e w_5 ⟨v_1, rfl, ho_1, hb⟩; refine ⟨_, rfl, ?_⟩; have HO_1 := a_ (Kd.R_lower ho_1 (below_size (bl_2 HB GE_1 GE_2))); replace BK_1 := bB_ BK_1 hb; replace BK_2 := bB_ BK_2 hb; replace HB := hB_ (bl_2 HB GE_1 GE_2) hb; (try clear hb); (try clear ho_1)) | ((with_reducible refine gd_ 8 ?_); refine bz_ 8 #[.int .u64 0, .int .u64 0, .slice none 0 0, .string (⟨#[]⟩ : ByteArray)] 48 ?_; intro gb_3 hg w_6 BK_3 hb; replace HO_1 := rb_ HO_1 hb; have GE_3 := a_ (bs_2 hg HB GE_1 GE_2); replace HB := hB_ (bl_2 HB GE_1 GE_2) hb; have NB_3 := nB_ hg BK_1; have NB_4 := nC_ hg BK_1; replace BK_1 := bB_ BK_1 hb; have NB_5 := nB_ hg BK_2; have NB_6 := nC_ hg BK_2; replace BK_2 := bB_ BK_2 hb; clear hb hg; have := NB_4.out; have := NB_3.out; have := NB_6.out; have := NB_5.out; obtain ⟨_, _, _, _, _, _, _, _⟩ := c4_ BK_3; obtain ⟨Ao_1, co_1, eo_1⟩ := Kd.R_slice HO_1.out; subst eo_1; obtain ⟨_, _, _, _, _, _, _, _⟩ := c4_ BK_2))
     refine bodyPost_ret (results_ct rfl _ _ gb_2 48 #[.int .u64 0, .int .u64 0, .slice none 0 0, .string (⟨#[]⟩ : ByteArray)] (0, 0) _ rfl (bp_1 BK_2 NB_5) Try.underlying48 rfl (by kernel_rfl)) rfl ?_
     exact ⟨_, fz_, nl_, bl_3 HB GE_1 GE_2 GE_3⟩)
  | (have _ := L2_
     go_wp2_with (first | ((with_reducible refine gd_ 1 ?_); refine bz_ 1 #[.slice A0_0 l0_0.length c0_0, .bool a0_1, .int .i64 a0_2] 24 ?_; intro gb_1 hg w_1 BK_1 hb; have GE_1 := a_ (bs_0 hg HB); replace HB := hB_ (bl_ HB) hb; clear hb hg) | ((with_reducible refine gd_ 2 ?_); refine bz_ 2 #[.int .u64 0, .int .u64 0, .slice none 0 0, .string (⟨#[]⟩ : ByteArray)] 48 ?_; intro gb_2 hg w_2 BK_2 hb; have GE_2 := a_ (bs_1 hg HB GE_1); replace HB := hB_ (bl_1 HB GE_1) hb; have NB_1 := nB_ hg BK_1; have NB_2 := nC_ hg BK_1; replace BK_1 := bB_ BK_1 hb; clear hb hg; have := NB_1.out; have := NB_2.out; obtain ⟨_, _, _, _, _, _⟩ := c3_ BK_1) | ((with_reducible refine gk_ 41 ?_); refine gl_ (some 12) Try.func41 #[.agg #[.slice A0_0 l0_0.length c0_0, .bool a0_1, .int .i64 a0_2], .string (⟨#[115, 110, 97, 112]⟩ : ByteArray)] ?_; (with_reducible refine (gafferref02_Read.calls _ _ _ _ _ _ _ _ _ _ ?side1 ?side2 A_2.out).mono ?_); (case side1 => exact cl_ (Kd.C_below HR_1.out HB.out)); (case side2 => exact HC_1.out); rintro e w_3 ⟨rfl, hb⟩; refine ⟨_, rfl, ?_⟩; replace BK_1 := bB_ BK_1 hb; replace BK_2 := bB_ BK_2 hb; replace HB := hB_ (bl_2 HB GE_1 GE_2) hb; (try clear hb)) | ((with_reducible refine gk_ 42 ?_); refine gl_ (some 24) Try.func42 #[.string t_1] ?_; (with_reducible refine (gafferref01_TakeFrame.calls _ _ _ _ _ _ A_4.out).mono ?_); rintro e w_4 ⟨rfl, hb⟩; refine ⟨_, rfl, ?_⟩; replace BK_1 := bB_ BK_1 hb; replace BK_2 := bB_ BK_2 hb; replace HB := hB_ (bl_2 HB GE_1 GE_2) hb; (try clear hb)) | ((with_reducible refine gk_ 28 ?_); refine gl_ (some 30) Try.func28 #[.string t_3] ?_; (with_reducible refine (gafferref05_Decode.calls _ _ _ _ _ _ _ _ A_6.out).mono ?_); rintro e w_5 ⟨v_1, rfl, ho_1, hb⟩; refine ⟨_, rfl, ?_⟩; have HO_1 := a_ (Kd.R_lower ho_1 (below_size (bl_2 HB GE_1 GE_2))); replace BK_1 := bB_ BK_1 hb; replace BK_2 := bB_ BK_2 hb; replace HB := hB_ (bl_2 HB GE_1 GE_2) hb; (try clear hb); (try clear ho_1)) | ((with_reducible refine gd_ 8 ?_); refine bz_ 8 #[.int .u64 0, .int .u64 0, .slice none 0 0, .string (⟨#[]⟩ : ByteArray)] 48 ?_; intro gb_3 hg w_6 BK_3 hb; replace HO_1 := rb_ HO_1 hb; have GE_3 := a_ (bs_2 hg HB GE_1 GE_2); replace HB := hB_ (bl_2 HB GE_1 GE_2) hb; have NB_3 := nB_ hg BK_1; have NB_4 := nC_ hg BK_1; replace BK_1 := bB_ BK_1 hb; have NB_5 := nB_ hg BK_2; have NB_6 := nC_ hg BK_2; replace BK_2 := bB_ BK_2 hb; clear hb hg; have := NB_4.out; have := NB_3.out; have := NB_6.out; have := NB_5.out; obtain ⟨_, _, _, _, _, _, _, _⟩ := c4_ BK_3; obtain ⟨Ao_1, co_1, eo_1⟩ := Kd.R_slice HO_1.out; subst eo_1; obtain ⟨_, _, _, _, _, _, _, _⟩ := c4_ BK_2))
     refine bodyPost_ret (results_ct rfl _ _ gb_2 48 #[.int .u64 t_6, .int .u64 t_7, .slice Ao_1 t_8.length co_1, .string t_9] (0, 0) _ rfl (bp_1 BK_2 NB_5) Try.underlying48 rfl (by kernel_rfl)) rfl ?_
     exact ⟨_, fz_, by refine rq_ ?_; exact rf2_ HO_1 BK_3 BK_2, bl_3 HB GE_1 GE_2 GE_3⟩)
end Go.Proofs.Ytpigjmjbfpipnaa.PF
