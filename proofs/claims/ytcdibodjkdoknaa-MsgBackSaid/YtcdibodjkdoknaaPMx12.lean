-- Written for this claim by a program of this session. Lean checks it.
import Derived.Test.YtcdibodjkdoknaaPMx0
import Derived.Test.YtcdibodjkdoknaaPMx1
import Derived.Test.YtcdibodjkdoknaaPMx4
import Derived.Test.YtcdibodjkdoknaaPMx6
import Derived.Test.YtcdibodjkdoknaaPMx10
import Derived.Test.YtcdibodjkdoknaaPMx11
namespace Go.Proofs.Ytcdibodjkdoknaa.PM
open Go.RowKit Go.Proofs.YtcdibodjkdoknaaW.PrintWords Go.Proofs.YtcdibodjkdoknaaW.PrintLast Go.Proofs.YtcdibodjkdoknaaW.PrintMore Go.Proofs.Ytcdibodjkdoknaa.Sh Go.Proofs.Ytcdibodjkdoknaa.Op
attribute [local go_sem] max2_int min2_int max_two min_two max_three min_three max_four min_four   -- for this text's walks alone
set_option linter.unusedVariables false
set_option maxHeartbeats 80000000
set_option maxRecDepth 100000
set_option linter.unusedSimpArgs false

/-! ### gafferref13_Same: function 18 -/
def gafferref13_Same.f (k : Nat) (a0_0 : Int) (a0_1 : Int) (a0_2 : Int) (a0_3 : Int) (a0_4 : Int) (a0_5 : Bool) (l0_6 : List (S67)) (a0_7 : Int) (a0_8 : Int) (l0_9 : List Int) (a0_10 : ByteArray) (a1_0 : Int) (a1_1 : Int) (a1_2 : Int) (a1_3 : Int) (a1_4 : Int) (a1_5 : Bool) (l1_6 : List (S67)) (a1_7 : Int) (a1_8 : Int) (l1_9 : List Int) (a1_10 : ByteArray) : Option (Bool) := if a0_0 = a1_0 then (if a0_1 = a1_1 then (if a0_2 = a1_2 then (if a0_3 = a1_3 then (if a0_4 = a1_4 then (if (a0_5 == a1_5) = true then ((gafferref03_Same.f k l0_6 l1_6).bind fun t247 => (if t247 = true then ((gafferref05_Same.f k a0_7 a0_8 l0_9 a0_10 a1_7 a1_8 l1_9 a1_10).bind fun t248 => (some t248)) else (some false))) else (some false)) else (some false)) else (some false)) else (some false)) else (some false)) else (some false)
theorem gafferref13_Same.mono : ∀ a0 a1 a2 a3 a4 a5 a6 a7 a8 a9 a10 a11 a12 a13 a14 a15 a16 a17 a18 a19 a20 a21 k, LeO (gafferref13_Same.f k a0 a1 a2 a3 a4 a5 a6 a7 a8 a9 a10 a11 a12 a13 a14 a15 a16 a17 a18 a19 a20 a21) (gafferref13_Same.f (k + 1) a0 a1 a2 a3 a4 a5 a6 a7 a8 a9 a10 a11 a12 a13 a14 a15 a16 a17 a18 a19 a20 a21) := by
 intro a0 a1 a2 a3 a4 a5 a6 a7 a8 a9 a10 a11 a12 a13 a14 a15 a16 a17 a18 a19 a20 a21 k
 unfold gafferref13_Same.f
 repeat' with_reducible first | exact gafferref03_Same.mono _ _ _ | exact gafferref05_Same.mono _ _ _ _ _ _ _ _ _ | exact LeO.refl _ | exact LeO.none _ | refine LeO.ite ?_ ?_ | refine LeO.bind ?_ (fun _ => ?_)
theorem gafferref13_Same.calls (k : Nat) (a0_0 : Int) (a0_1 : Int) (a0_2 : Int) (a0_3 : Int) (a0_4 : Int) (a0_5 : Bool) (A0_6 : Option Addr) (c0_6 : Nat) (l0_6 : List (S67)) (a0_7 : Int) (a0_8 : Int) (A0_9 : Option Addr) (c0_9 : Nat) (l0_9 : List Int) (a0_10 : ByteArray) (a1_0 : Int) (a1_1 : Int) (a1_2 : Int) (a1_3 : Int) (a1_4 : Int) (a1_5 : Bool) (A1_6 : Option Addr) (c1_6 : Nat) (l1_6 : List (S67)) (a1_7 : Int) (a1_8 : Int) (A1_9 : Option Addr) (c1_9 : Nat) (l1_9 : List Int) (a1_10 : ByteArray) (r : Bool) (w : World) (hr0_6 : Kd.C k67 w A0_6 l0_6.length l0_6) (hc0_6 : l0_6.length ≤ c0_6) (hr0_9 : Kd.C (Kd.int .i64) w A0_9 l0_9.length l0_9) (hc0_9 : l0_9.length ≤ c0_9) (hr1_6 : Kd.C k67 w A1_6 l1_6.length l1_6) (hc1_6 : l1_6.length ≤ c1_6) (hr1_9 : Kd.C (Kd.int .i64) w A1_9 l1_9.length l1_9) (hc1_9 : l1_9.length ≤ c1_9) (h : gafferref13_Same.f k a0_0 a0_1 a0_2 a0_3 a0_4 a0_5 l0_6 a0_7 a0_8 l0_9 a0_10 a1_0 a1_1 a1_2 a1_3 a1_4 a1_5 l1_6 a1_7 a1_8 l1_9 a1_10 = some r) :
  Calls Try.prog 18 #[.agg #[.int .u8 a0_0, .int .u64 a0_1, .int .u64 a0_2, .int .u64 a0_3, .int .u64 a0_4, .bool a0_5, .slice A0_6 l0_6.length c0_6, .int .u64 a0_7, .int .u64 a0_8, .slice A0_9 l0_9.length c0_9, .string a0_10], .agg #[.int .u8 a1_0, .int .u64 a1_1, .int .u64 a1_2, .int .u64 a1_3, .int .u64 a1_4, .bool a1_5, .slice A1_6 l1_6.length c1_6, .int .u64 a1_7, .int .u64 a1_8, .slice A1_9 l1_9.length c1_9, .string a1_10]] w fun e w' => e = .returned (.bool r) ∧ Below w.heap.size w w' := by
 have hu_1 := Try.underlying37
 have hu_2 := Try.underlying35
 have HR_1 := a_ hr0_6
 have HC_1 := a_ hc0_6
 clear hr0_6 hc0_6
 have HR_2 := a_ hr0_9
 have HC_2 := a_ hc0_9
 clear hr0_9 hc0_9
 have HR_3 := a_ hr1_6
 have HC_3 := a_ hc1_6
 clear hr1_6 hc1_6
 have HR_4 := a_ hr1_9
 have HC_4 := a_ hc1_9
 clear hr1_9 hc1_9
 have HB := a_ (Below.refl w.heap.size w)
 have H : (if a0_0 = a1_0 then (if a0_1 = a1_1 then (if a0_2 = a1_2 then (if a0_3 = a1_3 then (if a0_4 = a1_4 then (if (a0_5 == a1_5) = true then ((gafferref03_Same.f k l0_6 l1_6).bind fun t247 => (if t247 = true then ((gafferref05_Same.f k a0_7 a0_8 l0_9 a0_10 a1_7 a1_8 l1_9 a1_10).bind fun t248 => (some t248)) else (some false))) else (some false)) else (some false)) else (some false)) else (some false)) else (some false)) else (some false)) = some r := h
 clear h
 by_cases c_1 : a0_0 = a1_0
 rotate_left
 focus
  rw [if_neg c_1] at H
  have c_2 : (a0_0 == a1_0) = false := beq_eq_false_iff_ne.mpr c_1
  have c_3 : (a0_0 != a1_0) = true := bne_iff_ne.mpr c_1
  obtain rfl := Option.some.inj H
  have L0_ := trivial
 rotate_left
 focus
  rw [if_pos c_1] at H
  have c_2 : (a0_0 == a1_0) = true := beq_iff_eq.mpr c_1
  have c_3 : (a0_0 != a1_0) = false := bne_eq_false_iff_eq.mpr c_1
  clear c_1
  by_cases c_4 : a0_1 = a1_1
  rotate_left
  focus
   rw [if_neg c_4] at H
   have c_5 : (a0_1 == a1_1) = false := beq_eq_false_iff_ne.mpr c_4
   have c_6 : (a0_1 != a1_1) = true := bne_iff_ne.mpr c_4
   obtain rfl := Option.some.inj H
   have L0_ := trivial
  rotate_left
  focus
   rw [if_pos c_4] at H
   have c_5 : (a0_1 == a1_1) = true := beq_iff_eq.mpr c_4
   have c_6 : (a0_1 != a1_1) = false := bne_eq_false_iff_eq.mpr c_4
   clear c_4
   by_cases c_7 : a0_2 = a1_2
   rotate_left
   focus
    rw [if_neg c_7] at H
    have c_8 : (a0_2 == a1_2) = false := beq_eq_false_iff_ne.mpr c_7
    have c_9 : (a0_2 != a1_2) = true := bne_iff_ne.mpr c_7
    obtain rfl := Option.some.inj H
    have L0_ := trivial
   rotate_left
   focus
    rw [if_pos c_7] at H
    have c_8 : (a0_2 == a1_2) = true := beq_iff_eq.mpr c_7
    have c_9 : (a0_2 != a1_2) = false := bne_eq_false_iff_eq.mpr c_7
    clear c_7
    by_cases c_10 : a0_3 = a1_3
    rotate_left
    focus
     rw [if_neg c_10] at H
     have c_11 : (a0_3 == a1_3) = false := beq_eq_false_iff_ne.mpr c_10
     have c_12 : (a0_3 != a1_3) = true := bne_iff_ne.mpr c_10
     obtain rfl := Option.some.inj H
     have L0_ := trivial
    rotate_left
    focus
     rw [if_pos c_10] at H
     have c_11 : (a0_3 == a1_3) = true := beq_iff_eq.mpr c_10
     have c_12 : (a0_3 != a1_3) = false := bne_eq_false_iff_eq.mpr c_10
     clear c_10
     by_cases c_13 : a0_4 = a1_4
     rotate_left
     focus
      rw [if_neg c_13] at H
      have c_14 : (a0_4 == a1_4) = false := beq_eq_false_iff_ne.mpr c_13
      have c_15 : (a0_4 != a1_4) = true := bne_iff_ne.mpr c_13
      obtain rfl := Option.some.inj H
      have L0_ := trivial
     rotate_left
     focus
      rw [if_pos c_13] at H
      have c_14 : (a0_4 == a1_4) = true := beq_iff_eq.mpr c_13
      have c_15 : (a0_4 != a1_4) = false := bne_eq_false_iff_eq.mpr c_13
      clear c_13
      by_cases c_16 : (a0_5 == a1_5) = true
      rotate_left
      focus
       rw [if_neg c_16] at H
       have c_17 : (a0_5 == a1_5) = false := by simpa using c_16
       (try (have c_18 : decide (a0_5 = a1_5) = false := by simpa using c_16))
       (try (have c_19 : (a0_5 == a1_5) = false := by simpa using c_16))
       (try (have c_20 : ¬ (a0_5 = a1_5) := by simpa using c_16))
       clear c_16
       obtain rfl := Option.some.inj H
       have L0_ := trivial
      rotate_left
      focus
       rw [if_pos c_16] at H
       have c_17 : (a0_5 == a1_5) = true := c_16
       (try (have c_18 : decide (a0_5 = a1_5) = true := by simpa using c_16))
       (try (have c_19 : (a0_5 == a1_5) = true := by simpa using c_16))
       clear c_16
       obtain ⟨t_1, A_1, H⟩ := Option.bind_eq_some_iff.mp H
       try dsimp only at H
       have A_2 := a_ A_1
       clear A_1
       by_cases c_20 : t_1 = true
       rotate_left
       focus
        replace c_20 := Bool.eq_false_iff.mpr c_20
        subst c_20
        have H_1 : (some false) = some r := by rw [if_neg (show ¬ (false = true) by decide)] at H; exact H
        clear H
        have H := H_1
        clear H_1
        obtain rfl := Option.some.inj H
        have L0_ := trivial
       rotate_left
       subst c_20
       have H_1 : ((gafferref05_Same.f k a0_7 a0_8 l0_9 a0_10 a1_7 a1_8 l1_9 a1_10).bind fun t248 => (some t248)) = some r := by rw [if_pos rfl] at H; exact H
       clear H
       have H := H_1
       clear H_1
       obtain ⟨t_2, A_3, H⟩ := Option.bind_eq_some_iff.mp H
       try dsimp only at H
       have A_4 := a_ A_3
       clear A_3
       obtain rfl := Option.some.inj H
       have L1_ := trivial
 all_goals
  go_enter Try.func18, Try.ntmps18
  first
  | (have _ := L0_
     go_wp2_with (first | ((with_reducible refine gd_ 2 ?_); refine bx_ 2 #[.int .u8 a0_0, .int .u64 a0_1, .int .u64 a0_2, .int .u64 a0_3, .int .u64 a0_4, .bool a0_5, .slice A0_6 l0_6.length c0_6, .int .u64 a0_7, .int .u64 a0_8, .slice A0_9 l0_9.length c0_9, .string a0_10] 37 ?_; intro gb_1 hg w_1 hbox hb; have BK_1 := a_ (hbox); have GE_1 := a_ (bs_0 hg HB); replace HB := hB_ (bl_ HB) hb; clear hb hbox hg) | ((with_reducible refine gd_ 3 ?_); refine bx_ 3 #[.int .u8 a1_0, .int .u64 a1_1, .int .u64 a1_2, .int .u64 a1_3, .int .u64 a1_4, .bool a1_5, .slice A1_6 l1_6.length c1_6, .int .u64 a1_7, .int .u64 a1_8, .slice A1_9 l1_9.length c1_9, .string a1_10] 37 ?_; intro gb_2 hg w_2 hbox hb; have BK_2 := a_ (hbox); have GE_2 := a_ (bs_1 hg HB GE_1); replace HB := hB_ (bl_1 HB GE_1) hb; have NB_1 := nB_ hg BK_1; have NB_2 := nC_ hg BK_1; replace BK_1 := bB_ BK_1 hb; clear hb hbox hg; have hnb_1 := NB_1.out; have hnc_1 := NB_2.out; obtain ⟨hcz_1, hcz_2, hcz_3, hcz_4, hcz_5, hcz_6, hcz_7, hcz_8, hcz_9, hcz_10, hcz_11, hfz_1, hfz_2, hfz_3, hfz_4, hfz_5, hfz_6, hfz_7, hfz_8, hfz_9, hfz_10, hfz_11⟩ := c11_ BK_1; obtain ⟨hcz_12, hcz_13, hcz_14, hcz_15, hcz_16, hcz_17, hcz_18, hcz_19, hcz_20, hcz_21, hcz_22, hfz_12, hfz_13, hfz_14, hfz_15, hfz_16, hfz_17, hfz_18, hfz_19, hfz_20, hfz_21, hfz_22⟩ := c11_ BK_2) | (go_at_call 33; (with_reducible refine (gafferref03_Same.calls k _ _ l0_6 _ _ l1_6 _ _ ?side1 ?side2 ?side3 ?side4 A_2.out).mono ?_); (case side1 => exact cl_ (Kd.C_below HR_1.out HB.out)); (case side2 => exact HC_1.out); (case side3 => exact cl_ (Kd.C_below HR_3.out HB.out)); (case side4 => exact HC_3.out); rintro e w_3 ⟨rfl, hb⟩; replace BK_1 := bB_ BK_1 hb; replace BK_2 := bB_ BK_2 hb; replace HB := hB_ (bl_2 HB GE_1 GE_2) hb; (try clear hb)))
     go_ret
     exact ⟨fz_, bl_2 HB GE_1 GE_2⟩)
  | (have _ := L1_
     go_wp2_with (first | ((with_reducible refine gd_ 2 ?_); refine bx_ 2 #[.int .u8 a0_0, .int .u64 a0_1, .int .u64 a0_2, .int .u64 a0_3, .int .u64 a0_4, .bool a0_5, .slice A0_6 l0_6.length c0_6, .int .u64 a0_7, .int .u64 a0_8, .slice A0_9 l0_9.length c0_9, .string a0_10] 37 ?_; intro gb_1 hg w_1 hbox hb; have BK_1 := a_ (hbox); have GE_1 := a_ (bs_0 hg HB); replace HB := hB_ (bl_ HB) hb; clear hb hbox hg) | ((with_reducible refine gd_ 3 ?_); refine bx_ 3 #[.int .u8 a1_0, .int .u64 a1_1, .int .u64 a1_2, .int .u64 a1_3, .int .u64 a1_4, .bool a1_5, .slice A1_6 l1_6.length c1_6, .int .u64 a1_7, .int .u64 a1_8, .slice A1_9 l1_9.length c1_9, .string a1_10] 37 ?_; intro gb_2 hg w_2 hbox hb; have BK_2 := a_ (hbox); have GE_2 := a_ (bs_1 hg HB GE_1); replace HB := hB_ (bl_1 HB GE_1) hb; have NB_1 := nB_ hg BK_1; have NB_2 := nC_ hg BK_1; replace BK_1 := bB_ BK_1 hb; clear hb hbox hg; have hnb_1 := NB_1.out; have hnc_1 := NB_2.out; obtain ⟨hcz_1, hcz_2, hcz_3, hcz_4, hcz_5, hcz_6, hcz_7, hcz_8, hcz_9, hcz_10, hcz_11, hfz_1, hfz_2, hfz_3, hfz_4, hfz_5, hfz_6, hfz_7, hfz_8, hfz_9, hfz_10, hfz_11⟩ := c11_ BK_1; obtain ⟨hcz_12, hcz_13, hcz_14, hcz_15, hcz_16, hcz_17, hcz_18, hcz_19, hcz_20, hcz_21, hcz_22, hfz_12, hfz_13, hfz_14, hfz_15, hfz_16, hfz_17, hfz_18, hfz_19, hfz_20, hfz_21, hfz_22⟩ := c11_ BK_2) | (go_at_call 33; (with_reducible refine (gafferref03_Same.calls k _ _ l0_6 _ _ l1_6 _ _ ?side1 ?side2 ?side3 ?side4 A_2.out).mono ?_); (case side1 => exact cl_ (Kd.C_below HR_1.out HB.out)); (case side2 => exact HC_1.out); (case side3 => exact cl_ (Kd.C_below HR_3.out HB.out)); (case side4 => exact HC_3.out); rintro e w_3 ⟨rfl, hb⟩; replace BK_1 := bB_ BK_1 hb; replace BK_2 := bB_ BK_2 hb; replace HB := hB_ (bl_2 HB GE_1 GE_2) hb; (try clear hb); obtain ⟨hcz_23, hcz_24, hcz_25, hcz_26, hcz_27, hcz_28, hcz_29, hcz_30, hcz_31, hcz_32, hcz_33, hfz_23, hfz_24, hfz_25, hfz_26, hfz_27, hfz_28, hfz_29, hfz_30, hfz_31, hfz_32, hfz_33⟩ := c11_ BK_1; obtain ⟨hcz_34, hcz_35, hcz_36, hcz_37, hcz_38, hcz_39, hcz_40, hcz_41, hcz_42, hcz_43, hcz_44, hfz_34, hfz_35, hfz_36, hfz_37, hfz_38, hfz_39, hfz_40, hfz_41, hfz_42, hfz_43, hfz_44⟩ := c11_ BK_2) | (go_at_call 34; (with_reducible refine (gafferref05_Same.calls k a0_7 a0_8 _ _ l0_9 a0_10 a1_7 a1_8 _ _ l1_9 a1_10 t_2 _ ?side1 ?side2 ?side3 ?side4 A_4.out).mono ?_); (case side1 => exact cl_ (Kd.C_below HR_2.out HB.out)); (case side2 => exact HC_2.out); (case side3 => exact cl_ (Kd.C_below HR_4.out HB.out)); (case side4 => exact HC_4.out); rintro e w_4 ⟨rfl, hb⟩; replace BK_1 := bB_ BK_1 hb; replace BK_2 := bB_ BK_2 hb; replace HB := hB_ (bl_2 HB GE_1 GE_2) hb; (try clear hb)))
     go_ret
     exact ⟨fz_, bl_2 HB GE_1 GE_2⟩)

/-! ### gafferlaw13_lives: function 17 -/
def gafferlaw13_lives.f (k : Nat)  : Option (Bool) := (msg_Encode.f k 2 2 0 0 0 true ([] : List (S67)) 0 0 ([] : List Int) (⟨#[]⟩ : ByteArray)).bind fun bt250 => ((pack_Frame.f k (⟨#[1, 2, 1, 2, 1, 1]⟩ : ByteArray)).bind fun bt252 => ((msg_Decode.f k bt250.1).bind fun bt254 => (if bt250.1.size + 1 ≤ 9223372036854775807 then ((msg_Decode.f k (bt250.1 ++ (⟨#[120]⟩ : ByteArray))).bind fun bt271 => (if bt250.1.toList = bt252.1.toList then (if (bt250.1.size : Int) = 12 then (if bt250.2 = 0 then (if bt254.2.2.2.2.2.2.2.2.2.2.2 = 0 then ((gafferref13_Same.f k 2 2 0 0 0 true ([] : List (S67)) 0 0 ([] : List Int) (⟨#[]⟩ : ByteArray) bt254.1 bt254.2.1 bt254.2.2.1 bt254.2.2.2.1 bt254.2.2.2.2.1 bt254.2.2.2.2.2.1 bt254.2.2.2.2.2.2.1 bt254.2.2.2.2.2.2.2.1 bt254.2.2.2.2.2.2.2.2.1 bt254.2.2.2.2.2.2.2.2.2.1 bt254.2.2.2.2.2.2.2.2.2.2.1).bind fun t288 => (if t288 = true then (some (bt271.2.2.2.2.2.2.2.2.2.2.2 == 4)) else (some false))) else (some false)) else (some false)) else (some false)) else (some false))) else (none))))
theorem gafferlaw13_lives.mono : ∀ k, LeO (gafferlaw13_lives.f k ) (gafferlaw13_lives.f (k + 1) ) := by
 intro  k
 unfold gafferlaw13_lives.f
 repeat' with_reducible first | exact gafferref13_Same.mono _ _ _ _ _ _ _ _ _ _ _ _ _ _ _ _ _ _ _ _ _ _ _ | exact msg_Decode.mono _ _ | exact msg_Encode.mono _ _ _ _ _ _ _ _ _ _ _ _ | exact pack_Frame.mono _ _ | exact LeO.refl _ | exact LeO.none _ | refine LeO.ite ?_ ?_ | refine LeO.bind ?_ (fun _ => ?_)
theorem gafferlaw13_lives.only (k : Nat) (r : Bool) (h : gafferlaw13_lives.f k = some r) : r = true := by
 have h1 : gafferlaw13_lives.f (k + 200) = some r := at_rounds (fun k => gafferlaw13_lives.mono k) (Nat.le_add_right _ _) h
 have h2 : gafferlaw13_lives.f (k + 200) = some true := at_rounds (g := fun k => gafferlaw13_lives.f k) (fun k => gafferlaw13_lives.mono k) (Nat.le_add_left 200 k) (show gafferlaw13_lives.f 200 = some true by decide +kernel)
 rw [h1] at h2
 injection h2
theorem gafferlaw13_lives.calls (k : Nat)  (r : Bool) (w : World) (h : gafferlaw13_lives.f k  = some r) :
  Calls Try.prog 17 #[] w fun e w' => e = .returned (.bool r) ∧ Below w.heap.size w w' := by
 have hr : r = true := gafferlaw13_lives.only k r h
 have hu_1 := Try.underlying37
 have HB := a_ (Below.refl w.heap.size w)
 have H : ((msg_Encode.f k 2 2 0 0 0 true ([] : List (S67)) 0 0 ([] : List Int) (⟨#[]⟩ : ByteArray)).bind fun bt250 => ((pack_Frame.f k (⟨#[1, 2, 1, 2, 1, 1]⟩ : ByteArray)).bind fun bt252 => ((msg_Decode.f k bt250.1).bind fun bt254 => (if bt250.1.size + 1 ≤ 9223372036854775807 then ((msg_Decode.f k (bt250.1 ++ (⟨#[120]⟩ : ByteArray))).bind fun bt271 => (if bt250.1.toList = bt252.1.toList then (if (bt250.1.size : Int) = 12 then (if bt250.2 = 0 then (if bt254.2.2.2.2.2.2.2.2.2.2.2 = 0 then ((gafferref13_Same.f k 2 2 0 0 0 true ([] : List (S67)) 0 0 ([] : List Int) (⟨#[]⟩ : ByteArray) bt254.1 bt254.2.1 bt254.2.2.1 bt254.2.2.2.1 bt254.2.2.2.2.1 bt254.2.2.2.2.2.1 bt254.2.2.2.2.2.2.1 bt254.2.2.2.2.2.2.2.1 bt254.2.2.2.2.2.2.2.2.1 bt254.2.2.2.2.2.2.2.2.2.1 bt254.2.2.2.2.2.2.2.2.2.2.1).bind fun t288 => (if t288 = true then (some (bt271.2.2.2.2.2.2.2.2.2.2.2 == 4)) else (some false))) else (some false)) else (some false)) else (some false)) else (some false))) else (none))))) = some r := h
 clear h
 obtain ⟨⟨t_1, t_2⟩, A_1, H⟩ := Option.bind_eq_some_iff.mp H
 try dsimp only at H
 have A_2 := a_ A_1
 clear A_1
 obtain ⟨⟨t_3, t_4⟩, A_3, H⟩ := Option.bind_eq_some_iff.mp H
 try dsimp only at H
 have A_4 := a_ A_3
 clear A_3
 obtain ⟨⟨t_5, t_6, t_7, t_8, t_9, t_10, t_11, t_12, t_13, t_14, t_15, t_16⟩, A_5, H⟩ := Option.bind_eq_some_iff.mp H
 try dsimp only at H
 have A_6 := a_ A_5
 clear A_5
 by_cases c_1 : t_1.size + 1 ≤ 9223372036854775807
 rotate_left
 ·rw [if_neg c_1] at H
  exact absurd H (by simp)
 rw [if_pos c_1] at H
 have c_2 := eq_true c_1
 have c_3 : decide (t_1.size + 1 ≤ 9223372036854775807) = true := decide_eq_true c_1
 try have c_4 : (9223372036854775807 < t_1.size + 1) = False := eq_false (Nat.not_lt.2 c_1)
 clear c_1
 obtain ⟨⟨t_17, t_18, t_19, t_20, t_21, t_22, t_23, t_24, t_25, t_26, t_27, t_28⟩, A_7, H⟩ := Option.bind_eq_some_iff.mp H
 try dsimp only at H
 have A_8 := a_ A_7
 clear A_7
 by_cases c_5 : t_1.toList = t_3.toList
 rotate_left
 ·rw [if_neg c_5] at H
  have c_6 : (t_1.toList == t_3.toList) = false := beq_eq_false_iff_ne.mpr c_5
  have c_7 : (t_1.toList != t_3.toList) = true := bne_iff_ne.mpr c_5
  exact absurd (H.trans (congrArg some hr)) (by simp)
 rw [if_pos c_5] at H
 have c_6 : (t_1.toList == t_3.toList) = true := beq_iff_eq.mpr c_5
 have c_7 : (t_1.toList != t_3.toList) = false := bne_eq_false_iff_eq.mpr c_5
 clear c_5
 by_cases c_8 : (t_1.size : Int) = 12
 rotate_left
 ·rw [if_neg c_8] at H
  have c_9 : ((t_1.size : Int) == 12) = false := beq_eq_false_iff_ne.mpr c_8
  have c_10 : ((t_1.size : Int) != 12) = true := bne_iff_ne.mpr c_8
  exact absurd (H.trans (congrArg some hr)) (by simp)
 rw [if_pos c_8] at H
 have c_9 : ((t_1.size : Int) == 12) = true := beq_iff_eq.mpr c_8
 have c_10 : ((t_1.size : Int) != 12) = false := bne_eq_false_iff_eq.mpr c_8
 clear c_8
 by_cases c_11 : t_2 = 0
 rotate_left
 ·rw [if_neg c_11] at H
  have c_12 : (t_2 == 0) = false := beq_eq_false_iff_ne.mpr c_11
  have c_13 : (t_2 != 0) = true := bne_iff_ne.mpr c_11
  exact absurd (H.trans (congrArg some hr)) (by simp)
 rw [if_pos c_11] at H
 have c_12 : (t_2 == 0) = true := beq_iff_eq.mpr c_11
 have c_13 : (t_2 != 0) = false := bne_eq_false_iff_eq.mpr c_11
 clear c_11
 by_cases c_14 : t_16 = 0
 rotate_left
 ·rw [if_neg c_14] at H
  have c_15 : (t_16 == 0) = false := beq_eq_false_iff_ne.mpr c_14
  have c_16 : (t_16 != 0) = true := bne_iff_ne.mpr c_14
  exact absurd (H.trans (congrArg some hr)) (by simp)
 rw [if_pos c_14] at H
 have c_15 : (t_16 == 0) = true := beq_iff_eq.mpr c_14
 have c_16 : (t_16 != 0) = false := bne_eq_false_iff_eq.mpr c_14
 clear c_14
 obtain ⟨t_29, A_9, H⟩ := Option.bind_eq_some_iff.mp H
 try dsimp only at H
 have A_1 := a_ A_9
 clear A_9
 by_cases c_17 : t_29 = true
 rotate_left
 ·replace c_17 := Bool.eq_false_iff.mpr c_17
  subst c_17
  have H_1 : (some false) = some r := by rw [if_neg (show ¬ (false = true) by decide)] at H; exact H
  clear H
  have H := H_1
  clear H_1
  exact absurd (H.trans (congrArg some hr)) (by simp)
 subst c_17
 have H_1 : (some (t_28 == 4)) = some r := by rw [if_pos rfl] at H; exact H
 clear H
 have H := H_1
 clear H_1
 obtain rfl := Option.some.inj H
 go_enter Try.func17, Try.ntmps17
 go_wp2_with (first | ((with_reducible refine gd_ 1 ?_); (try (refine gate_guard (by rfl) ?_; dsimp only)); refine bx_ 1 #[.int .u8 0, .int .u64 0, .int .u64 0, .int .u64 0, .int .u64 0, .bool false, .slice none 0 0, .int .u64 0, .int .u64 0, .slice none 0 0, .string (⟨#[]⟩ : ByteArray)] 37 ?_; intro gb_1 hg w_1 hbox hb; have BK_1 := a_ (hbox); have GE_1 := a_ (bs_0 hg HB); replace HB := hB_ (bl_ HB) hb; clear hb hbox hg; obtain ⟨hcz_1, hcz_2, hcz_3, hcz_4, hcz_5, hcz_6, hcz_7, hcz_8, hcz_9, hcz_10, hcz_11, hfz_1, hfz_2, hfz_3, hfz_4, hfz_5, hfz_6, hfz_7, hfz_8, hfz_9, hfz_10, hfz_11⟩ := c11_ BK_1) | ((with_reducible refine gk_ 13 ?_); refine gl_ (some 13) Try.func13 #[.agg #[.int .u8 2, .int .u64 2, .int .u64 0, .int .u64 0, .int .u64 0, .bool true, .slice none 0 0, .int .u64 0, .int .u64 0, .slice none 0 0, .string (⟨#[]⟩ : ByteArray)]] ?_; (refine (msg_Encode.calls k 2 2 0 0 0 true _ _ ([] : List (S67)) 0 0 _ _ ([] : List Int) (⟨#[]⟩ : ByteArray) t_1 t_2 _ ?side1 ?side2 ?side3 ?side4 A_2.out).mono ?_); (case side1 => exact Kd.C_nil _ _); (case side2 => exact Nat.le_refl _); (case side3 => exact Kd.C_nil _ _); (case side4 => exact Nat.le_refl _); rintro e w_2 ⟨rfl, hb⟩; (try clear A_2); refine ⟨_, rfl, ?_⟩; replace BK_1 := a_ (blk_below (g := gb_1) (o := .cells #[.int .u8 2, .int .u64 2, .int .u64 0, .int .u64 0, .int .u64 0, .bool true, .slice none 0 0, .int .u64 0, .int .u64 0, .slice none 0 0, .string (⟨#[]⟩ : ByteArray)] 37 (0, 0)) (bp_0 BK_1) hb); replace HB := hB_ (bl_1 HB GE_1) hb; (try clear hb)) | ((with_reducible refine gk_ 11 ?_); refine gl_ (some 17) Try.func11 #[.string (⟨#[1, 2, 1, 2, 1, 1]⟩ : ByteArray)] ?_; (with_reducible refine (pack_Frame.calls k (⟨#[1, 2, 1, 2, 1, 1]⟩ : ByteArray) t_3 t_4 _ A_4.out).mono ?_); rintro e w_3 ⟨rfl, hb⟩; refine ⟨_, rfl, ?_⟩; replace BK_1 := bB_ BK_1 hb; replace HB := hB_ (bl_1 HB GE_1) hb; (try clear hb)) | ((with_reducible refine gk_ 15 ?_); refine gl_ (some 22) Try.func15 #[.string t_1] ?_; (with_reducible refine (msg_Decode.calls k t_1 t_5 t_6 t_7 t_8 t_9 t_10 t_11 t_12 t_13 t_14 t_15 t_16 _ A_6.out).mono ?_); rintro e w_4 ⟨v_1, v_2, rfl, ho_1, ho_2, hb⟩; refine ⟨_, rfl, ?_⟩; have HO_1 := a_ (Kd.S_lower ho_1 (below_size (bl_1 HB GE_1))); have HO_2 := a_ (Kd.R_lower ho_2 (below_size (bl_1 HB GE_1))); replace BK_1 := bB_ BK_1 hb; replace HB := hB_ (bl_1 HB GE_1) hb; (try clear hb); (try clear ho_1); (try clear ho_2)) | ((with_reducible refine gd_ 6 ?_); (try (refine gate_guard (by rfl) ?_; dsimp only)); refine bx_ 6 #[.int .u8 0, .int .u64 0, .int .u64 0, .int .u64 0, .int .u64 0, .bool false, .slice none 0 0, .int .u64 0, .int .u64 0, .slice none 0 0, .string (⟨#[]⟩ : ByteArray)] 37 ?_; intro gb_2 hg w_5 hbox hb; replace HO_1 := a_ (Kd.S_below (by (with_reducible repeat (first | apply Kd.S_alloc | apply Kd.S_drewN | apply Kd.S_drew)); exact HO_1.out) hb); replace HO_2 := a_ (Kd.R_below (by refine rq_ ?_; exact HO_2.out) hb); have BK_2 := a_ (hbox); have GE_2 := a_ (bs_1 hg HB GE_1); replace HB := hB_ (bl_1 HB GE_1) hb; have NB_1 := nB_ hg BK_1; have NB_2 := nC_ hg BK_1; replace BK_1 := bB_ BK_1 hb; clear hb hbox hg; have hnb_1 := NB_2.out; have hnc_1 := NB_1.out; obtain ⟨hcz_12, hcz_13, hcz_14, hcz_15, hcz_16, hcz_17, hcz_18, hcz_19, hcz_20, hcz_21, hcz_22, hfz_12, hfz_13, hfz_14, hfz_15, hfz_16, hfz_17, hfz_18, hfz_19, hfz_20, hfz_21, hfz_22⟩ := c11_ BK_2; obtain ⟨Ao_1, co_1, eo_1⟩ := Kd.S_slice HO_1.out; subst eo_1; obtain ⟨Ao_2, co_2, eo_2⟩ := Kd.R_slice HO_2.out; subst eo_2) | ((with_reducible refine gk_ 15 ?_); refine gl_ (some 28) Try.func15 #[.string (t_1 ++ (⟨#[120]⟩ : ByteArray))] ?_; (with_reducible refine (msg_Decode.calls k (t_1 ++ (⟨#[120]⟩ : ByteArray)) t_17 t_18 t_19 t_20 t_21 t_22 t_23 t_24 t_25 t_26 t_27 t_28 _ A_8.out).mono ?_); rintro e w_6 ⟨v_3, v_4, rfl, ho_1, ho_2, hb⟩; refine ⟨_, rfl, ?_⟩; have HO_3 := a_ (Kd.S_lower (Kd.S_new' (Kd.S_new' ho_1 (Kd.S_lt (by (with_reducible repeat (first | apply Kd.S_alloc | apply Kd.S_drewN | apply Kd.S_drew)); exact (Kd.S_mono (Kd.S_far (p := ⟨gb_2, 10, none⟩) (Kd.S_far (p := ⟨gb_2, 9, none⟩) (Kd.S_far (p := ⟨gb_2, 8, none⟩) (Kd.S_far (p := ⟨gb_2, 7, none⟩) (Kd.S_far (p := ⟨gb_2, 6, none⟩) (Kd.S_far (p := ⟨gb_2, 5, none⟩) (Kd.S_far (p := ⟨gb_2, 4, none⟩) (Kd.S_far (p := ⟨gb_2, 3, none⟩) (Kd.S_far (p := ⟨gb_2, 2, none⟩) (Kd.S_far (p := ⟨gb_2, 1, none⟩) (Kd.S_far (p := ⟨gb_2, 0, none⟩) (Kd.S_types HO_1.out BK_2.out (by decide)) (fun _ hk => hk.2) (.int .u8 t_5)) (fun _ hk => hk.2) (.int .u64 t_6)) (fun _ hk => hk.2) (.int .u64 t_7)) (fun _ hk => hk.2) (.int .u64 t_8)) (fun _ hk => hk.2) (.int .u64 t_9)) (fun _ hk => hk.2) (.bool t_10)) (fun _ hk => hk.2) (.slice Ao_1 t_11.length co_1)) (fun _ hk => hk.2) (.int .u64 t_12)) (fun _ hk => hk.2) (.int .u64 t_13)) (fun _ hk => hk.2) (.slice Ao_2 t_14.length co_2)) (fun _ hk => hk.2) (.string t_15)) (fun _ h_ => h_.1))))) (Kd.R_lt (by refine rq_ ?_; exact (Kd.R_mono (Kd.R_far (p := ⟨gb_2, 10, none⟩) (Kd.R_far (p := ⟨gb_2, 9, none⟩) (Kd.R_far (p := ⟨gb_2, 8, none⟩) (Kd.R_far (p := ⟨gb_2, 7, none⟩) (Kd.R_far (p := ⟨gb_2, 6, none⟩) (Kd.R_far (p := ⟨gb_2, 5, none⟩) (Kd.R_far (p := ⟨gb_2, 4, none⟩) (Kd.R_far (p := ⟨gb_2, 3, none⟩) (Kd.R_far (p := ⟨gb_2, 2, none⟩) (Kd.R_far (p := ⟨gb_2, 1, none⟩) (Kd.R_far (p := ⟨gb_2, 0, none⟩) (Kd.R_types HO_2.out BK_2.out (by decide)) (fun _ hk => hk.2) (.int .u8 t_5)) (fun _ hk => hk.2) (.int .u64 t_6)) (fun _ hk => hk.2) (.int .u64 t_7)) (fun _ hk => hk.2) (.int .u64 t_8)) (fun _ hk => hk.2) (.int .u64 t_9)) (fun _ hk => hk.2) (.bool t_10)) (fun _ hk => hk.2) (.slice Ao_1 t_11.length co_1)) (fun _ hk => hk.2) (.int .u64 t_12)) (fun _ hk => hk.2) (.int .u64 t_13)) (fun _ hk => hk.2) (.slice Ao_2 t_14.length co_2)) (fun _ hk => hk.2) (.string t_15)) (fun _ h_ => h_.1))))) (below_size (bl_2 HB GE_1 GE_2))); replace HO_1 := a_ (Kd.S_mono (Kd.S_told (Kd.S_told (Kd.S_old (by (with_reducible repeat (first | apply Kd.S_alloc | apply Kd.S_drewN | apply Kd.S_drew)); exact (Kd.S_mono (Kd.S_far (p := ⟨gb_2, 10, none⟩) (Kd.S_far (p := ⟨gb_2, 9, none⟩) (Kd.S_far (p := ⟨gb_2, 8, none⟩) (Kd.S_far (p := ⟨gb_2, 7, none⟩) (Kd.S_far (p := ⟨gb_2, 6, none⟩) (Kd.S_far (p := ⟨gb_2, 5, none⟩) (Kd.S_far (p := ⟨gb_2, 4, none⟩) (Kd.S_far (p := ⟨gb_2, 3, none⟩) (Kd.S_far (p := ⟨gb_2, 2, none⟩) (Kd.S_far (p := ⟨gb_2, 1, none⟩) (Kd.S_far (p := ⟨gb_2, 0, none⟩) (Kd.S_types HO_1.out BK_2.out (by decide)) (fun _ hk => hk.2) (.int .u8 t_5)) (fun _ hk => hk.2) (.int .u64 t_6)) (fun _ hk => hk.2) (.int .u64 t_7)) (fun _ hk => hk.2) (.int .u64 t_8)) (fun _ hk => hk.2) (.int .u64 t_9)) (fun _ hk => hk.2) (.bool t_10)) (fun _ hk => hk.2) (.slice Ao_1 t_11.length co_1)) (fun _ hk => hk.2) (.int .u64 t_12)) (fun _ hk => hk.2) (.int .u64 t_13)) (fun _ hk => hk.2) (.slice Ao_2 t_14.length co_2)) (fun _ hk => hk.2) (.string t_15)) (fun _ h_ => h_.1))) hb) (Kd.S_base ho_1)) (Kd.R_base ho_2)) (fun _ h_ => h_.1)); have HO_4 := a_ (Kd.R_lower (Kd.R_new' ho_2 (Kd.R_lt (by refine rq_ ?_; exact (Kd.R_mono (Kd.R_far (p := ⟨gb_2, 10, none⟩) (Kd.R_far (p := ⟨gb_2, 9, none⟩) (Kd.R_far (p := ⟨gb_2, 8, none⟩) (Kd.R_far (p := ⟨gb_2, 7, none⟩) (Kd.R_far (p := ⟨gb_2, 6, none⟩) (Kd.R_far (p := ⟨gb_2, 5, none⟩) (Kd.R_far (p := ⟨gb_2, 4, none⟩) (Kd.R_far (p := ⟨gb_2, 3, none⟩) (Kd.R_far (p := ⟨gb_2, 2, none⟩) (Kd.R_far (p := ⟨gb_2, 1, none⟩) (Kd.R_far (p := ⟨gb_2, 0, none⟩) (Kd.R_types HO_2.out BK_2.out (by decide)) (fun _ hk => hk.2) (.int .u8 t_5)) (fun _ hk => hk.2) (.int .u64 t_6)) (fun _ hk => hk.2) (.int .u64 t_7)) (fun _ hk => hk.2) (.int .u64 t_8)) (fun _ hk => hk.2) (.int .u64 t_9)) (fun _ hk => hk.2) (.bool t_10)) (fun _ hk => hk.2) (.slice Ao_1 t_11.length co_1)) (fun _ hk => hk.2) (.int .u64 t_12)) (fun _ hk => hk.2) (.int .u64 t_13)) (fun _ hk => hk.2) (.slice Ao_2 t_14.length co_2)) (fun _ hk => hk.2) (.string t_15)) (fun _ h_ => h_.1))))) (below_size (bl_2 HB GE_1 GE_2))); replace HO_2 := a_ (Kd.R_elder' (by refine rq_ ?_; exact (Kd.R_mono (Kd.R_far (p := ⟨gb_2, 10, none⟩) (Kd.R_far (p := ⟨gb_2, 9, none⟩) (Kd.R_far (p := ⟨gb_2, 8, none⟩) (Kd.R_far (p := ⟨gb_2, 7, none⟩) (Kd.R_far (p := ⟨gb_2, 6, none⟩) (Kd.R_far (p := ⟨gb_2, 5, none⟩) (Kd.R_far (p := ⟨gb_2, 4, none⟩) (Kd.R_far (p := ⟨gb_2, 3, none⟩) (Kd.R_far (p := ⟨gb_2, 2, none⟩) (Kd.R_far (p := ⟨gb_2, 1, none⟩) (Kd.R_far (p := ⟨gb_2, 0, none⟩) (Kd.R_types HO_2.out BK_2.out (by decide)) (fun _ hk => hk.2) (.int .u8 t_5)) (fun _ hk => hk.2) (.int .u64 t_6)) (fun _ hk => hk.2) (.int .u64 t_7)) (fun _ hk => hk.2) (.int .u64 t_8)) (fun _ hk => hk.2) (.int .u64 t_9)) (fun _ hk => hk.2) (.bool t_10)) (fun _ hk => hk.2) (.slice Ao_1 t_11.length co_1)) (fun _ hk => hk.2) (.int .u64 t_12)) (fun _ hk => hk.2) (.int .u64 t_13)) (fun _ hk => hk.2) (.slice Ao_2 t_14.length co_2)) (fun _ hk => hk.2) (.string t_15)) (fun _ h_ => h_.1))) (Kd.R_base ho_2) hb); replace BK_1 := a_ (blk_below (g := gb_1) (o := .cells #[.int .u8 2, .int .u64 2, .int .u64 0, .int .u64 0, .int .u64 0, .bool true, .slice none 0 0, .int .u64 0, .int .u64 0, .slice none 0 0, .string (⟨#[]⟩ : ByteArray)] 37 (0, 0)) (bp_1 BK_1 NB_1) hb); replace BK_2 := a_ (blk_below (g := gb_2) (o := .cells #[.int .u8 t_5, .int .u64 t_6, .int .u64 t_7, .int .u64 t_8, .int .u64 t_9, .bool t_10, .slice Ao_1 t_11.length co_1, .int .u64 t_12, .int .u64 t_13, .slice Ao_2 t_14.length co_2, .string t_15] 37 (0, 0)) (bp_0 BK_2) hb); replace HB := hB_ (bl_2 HB GE_1 GE_2) hb; (try clear hb); (try clear ho_1); (try clear ho_2)) | ((with_reducible refine gd_ 8 ?_); (try (refine gate_guard (by rfl) ?_; dsimp only)); refine bx_ 8 #[.int .u8 0, .int .u64 0, .int .u64 0, .int .u64 0, .int .u64 0, .bool false, .slice none 0 0, .int .u64 0, .int .u64 0, .slice none 0 0, .string (⟨#[]⟩ : ByteArray)] 37 ?_; intro gb_3 hg w_7 hbox hb; replace HO_1 := a_ (Kd.S_below (by (with_reducible repeat (first | apply Kd.S_alloc | apply Kd.S_drewN | apply Kd.S_drew)); exact HO_1.out) hb); replace HO_2 := a_ (Kd.R_below (by refine rq_ ?_; exact HO_2.out) hb); replace HO_3 := a_ (Kd.S_below (by (with_reducible repeat (first | apply Kd.S_alloc | apply Kd.S_drewN | apply Kd.S_drew)); exact HO_3.out) hb); replace HO_4 := a_ (Kd.R_below (by refine rq_ ?_; exact HO_4.out) hb); have BK_3 := a_ (hbox); have GE_3 := a_ (bs_2 hg HB GE_1 GE_2); replace HB := hB_ (bl_2 HB GE_1 GE_2) hb; have NB_3 := nB_ hg BK_1; have NB_4 := nC_ hg BK_1; replace BK_1 := bB_ BK_1 hb; have NB_5 := nB_ hg BK_2; have NB_6 := nC_ hg BK_2; replace BK_2 := bB_ BK_2 hb; clear hb hbox hg; have hnb_2 := NB_4.out; have hnc_2 := NB_3.out; have hnb_3 := NB_6.out; have hnc_3 := NB_5.out; obtain ⟨hcz_23, hcz_24, hcz_25, hcz_26, hcz_27, hcz_28, hcz_29, hcz_30, hcz_31, hcz_32, hcz_33, hfz_23, hfz_24, hfz_25, hfz_26, hfz_27, hfz_28, hfz_29, hfz_30, hfz_31, hfz_32, hfz_33⟩ := c11_ BK_3; obtain ⟨Ao_3, co_3, eo_3⟩ := Kd.S_slice HO_3.out; subst eo_3; obtain ⟨Ao_4, co_4, eo_4⟩ := Kd.R_slice HO_4.out; subst eo_4; obtain ⟨hcz_34, hcz_35, hcz_36, hcz_37, hcz_38, hcz_39, hcz_40, hcz_41, hcz_42, hcz_43, hcz_44, hfz_34, hfz_35, hfz_36, hfz_37, hfz_38, hfz_39, hfz_40, hfz_41, hfz_42, hfz_43, hfz_44⟩ := c11_ BK_1; obtain ⟨hcz_45, hcz_46, hcz_47, hcz_48, hcz_49, hcz_50, hcz_51, hcz_52, hcz_53, hcz_54, hcz_55, hfz_45, hfz_46, hfz_47, hfz_48, hfz_49, hfz_50, hfz_51, hfz_52, hfz_53, hfz_54, hfz_55⟩ := c11_ BK_2) | (go_at_call 18; (refine (gafferref13_Same.calls k 2 2 0 0 0 true _ _ ([] : List (S67)) 0 0 _ _ ([] : List Int) (⟨#[]⟩ : ByteArray) t_5 t_6 t_7 t_8 t_9 t_10 _ _ t_11 t_12 t_13 _ _ t_14 t_15 true _ ?side1 ?side2 ?side3 ?side4 ?side5 ?side6 ?side7 ?side8 A_1.out).mono ?_); (case side1 => exact Kd.C_nil _ _); (case side2 => exact Nat.le_refl _); (case side3 => exact Kd.C_nil _ _); (case side4 => exact Nat.le_refl _); (case side5 => refine (Kd.S_reads' (e := 67) (base := w.heap.size) (ok := fun k_ => ((some k_ ≠ (.slice Ao_2 t_14.length co_2 : Value).ownBlock ∧ some k_ ≠ (.slice Ao_3 t_23.length co_3 : Value).ownBlock) ∧ some k_ ≠ (.slice Ao_4 t_26.length co_4 : Value).ownBlock)) (n := t_11.length) (c := co_1) ?_).2.2; exact (by (with_reducible repeat (first | apply Kd.S_alloc | apply Kd.S_drewN | apply Kd.S_drew)); exact (Kd.S_mono (Kd.S_far (p := ⟨gb_3, 10, none⟩) (Kd.S_far (p := ⟨gb_3, 9, none⟩) (Kd.S_far (p := ⟨gb_3, 8, none⟩) (Kd.S_far (p := ⟨gb_3, 7, none⟩) (Kd.S_far (p := ⟨gb_3, 6, none⟩) (Kd.S_far (p := ⟨gb_3, 5, none⟩) (Kd.S_far (p := ⟨gb_3, 4, none⟩) (Kd.S_far (p := ⟨gb_3, 3, none⟩) (Kd.S_far (p := ⟨gb_3, 2, none⟩) (Kd.S_far (p := ⟨gb_3, 1, none⟩) (Kd.S_far (p := ⟨gb_3, 0, none⟩) (Kd.S_types HO_1.out BK_3.out (by decide)) (fun _ hk => hk.2) (.int .u8 t_17)) (fun _ hk => hk.2) (.int .u64 t_18)) (fun _ hk => hk.2) (.int .u64 t_19)) (fun _ hk => hk.2) (.int .u64 t_20)) (fun _ hk => hk.2) (.int .u64 t_21)) (fun _ hk => hk.2) (.bool t_22)) (fun _ hk => hk.2) (.slice Ao_3 t_23.length co_3)) (fun _ hk => hk.2) (.int .u64 t_24)) (fun _ hk => hk.2) (.int .u64 t_25)) (fun _ hk => hk.2) (.slice Ao_4 t_26.length co_4)) (fun _ hk => hk.2) (.string t_27)) (fun _ h_ => h_.1)))); (case side6 => exact (Kd.S_reads' HO_1.out).2.1); (case side7 => refine (Kd.R_reads' (e := 3) (base := w.heap.size) (ok := fun k_ => (True ∧ some k_ ≠ (.slice Ao_4 t_26.length co_4 : Value).ownBlock)) (n := t_14.length) (c := co_2) ?_).2.2; exact (by refine rq_ ?_; exact (Kd.R_mono (Kd.R_far (p := ⟨gb_3, 10, none⟩) (Kd.R_far (p := ⟨gb_3, 9, none⟩) (Kd.R_far (p := ⟨gb_3, 8, none⟩) (Kd.R_far (p := ⟨gb_3, 7, none⟩) (Kd.R_far (p := ⟨gb_3, 6, none⟩) (Kd.R_far (p := ⟨gb_3, 5, none⟩) (Kd.R_far (p := ⟨gb_3, 4, none⟩) (Kd.R_far (p := ⟨gb_3, 3, none⟩) (Kd.R_far (p := ⟨gb_3, 2, none⟩) (Kd.R_far (p := ⟨gb_3, 1, none⟩) (Kd.R_far (p := ⟨gb_3, 0, none⟩) (Kd.R_types HO_2.out BK_3.out (by decide)) (fun _ hk => hk.2) (.int .u8 t_17)) (fun _ hk => hk.2) (.int .u64 t_18)) (fun _ hk => hk.2) (.int .u64 t_19)) (fun _ hk => hk.2) (.int .u64 t_20)) (fun _ hk => hk.2) (.int .u64 t_21)) (fun _ hk => hk.2) (.bool t_22)) (fun _ hk => hk.2) (.slice Ao_3 t_23.length co_3)) (fun _ hk => hk.2) (.int .u64 t_24)) (fun _ hk => hk.2) (.int .u64 t_25)) (fun _ hk => hk.2) (.slice Ao_4 t_26.length co_4)) (fun _ hk => hk.2) (.string t_27)) (fun _ h_ => h_.1)))); (case side8 => exact (Kd.R_reads' HO_2.out).2.1); rintro e w_8 ⟨rfl, hb⟩; (try clear A_1); replace HO_1 := a_ (Kd.S_below (by (with_reducible repeat (first | apply Kd.S_alloc | apply Kd.S_drewN | apply Kd.S_drew)); exact (Kd.S_mono (Kd.S_far (p := ⟨gb_3, 10, none⟩) (Kd.S_far (p := ⟨gb_3, 9, none⟩) (Kd.S_far (p := ⟨gb_3, 8, none⟩) (Kd.S_far (p := ⟨gb_3, 7, none⟩) (Kd.S_far (p := ⟨gb_3, 6, none⟩) (Kd.S_far (p := ⟨gb_3, 5, none⟩) (Kd.S_far (p := ⟨gb_3, 4, none⟩) (Kd.S_far (p := ⟨gb_3, 3, none⟩) (Kd.S_far (p := ⟨gb_3, 2, none⟩) (Kd.S_far (p := ⟨gb_3, 1, none⟩) (Kd.S_far (p := ⟨gb_3, 0, none⟩) (Kd.S_types HO_1.out BK_3.out (by decide)) (fun _ hk => hk.2) (.int .u8 t_17)) (fun _ hk => hk.2) (.int .u64 t_18)) (fun _ hk => hk.2) (.int .u64 t_19)) (fun _ hk => hk.2) (.int .u64 t_20)) (fun _ hk => hk.2) (.int .u64 t_21)) (fun _ hk => hk.2) (.bool t_22)) (fun _ hk => hk.2) (.slice Ao_3 t_23.length co_3)) (fun _ hk => hk.2) (.int .u64 t_24)) (fun _ hk => hk.2) (.int .u64 t_25)) (fun _ hk => hk.2) (.slice Ao_4 t_26.length co_4)) (fun _ hk => hk.2) (.string t_27)) (fun _ h_ => h_.1))) hb); replace HO_2 := a_ (Kd.R_below (by refine rq_ ?_; exact (Kd.R_mono (Kd.R_far (p := ⟨gb_3, 10, none⟩) (Kd.R_far (p := ⟨gb_3, 9, none⟩) (Kd.R_far (p := ⟨gb_3, 8, none⟩) (Kd.R_far (p := ⟨gb_3, 7, none⟩) (Kd.R_far (p := ⟨gb_3, 6, none⟩) (Kd.R_far (p := ⟨gb_3, 5, none⟩) (Kd.R_far (p := ⟨gb_3, 4, none⟩) (Kd.R_far (p := ⟨gb_3, 3, none⟩) (Kd.R_far (p := ⟨gb_3, 2, none⟩) (Kd.R_far (p := ⟨gb_3, 1, none⟩) (Kd.R_far (p := ⟨gb_3, 0, none⟩) (Kd.R_types HO_2.out BK_3.out (by decide)) (fun _ hk => hk.2) (.int .u8 t_17)) (fun _ hk => hk.2) (.int .u64 t_18)) (fun _ hk => hk.2) (.int .u64 t_19)) (fun _ hk => hk.2) (.int .u64 t_20)) (fun _ hk => hk.2) (.int .u64 t_21)) (fun _ hk => hk.2) (.bool t_22)) (fun _ hk => hk.2) (.slice Ao_3 t_23.length co_3)) (fun _ hk => hk.2) (.int .u64 t_24)) (fun _ hk => hk.2) (.int .u64 t_25)) (fun _ hk => hk.2) (.slice Ao_4 t_26.length co_4)) (fun _ hk => hk.2) (.string t_27)) (fun _ h_ => h_.1))) hb); replace HO_3 := a_ (Kd.S_below (by (with_reducible repeat (first | apply Kd.S_alloc | apply Kd.S_drewN | apply Kd.S_drew)); exact (Kd.S_mono (Kd.S_far (p := ⟨gb_3, 10, none⟩) (Kd.S_far (p := ⟨gb_3, 9, none⟩) (Kd.S_far (p := ⟨gb_3, 8, none⟩) (Kd.S_far (p := ⟨gb_3, 7, none⟩) (Kd.S_far (p := ⟨gb_3, 6, none⟩) (Kd.S_far (p := ⟨gb_3, 5, none⟩) (Kd.S_far (p := ⟨gb_3, 4, none⟩) (Kd.S_far (p := ⟨gb_3, 3, none⟩) (Kd.S_far (p := ⟨gb_3, 2, none⟩) (Kd.S_far (p := ⟨gb_3, 1, none⟩) (Kd.S_far (p := ⟨gb_3, 0, none⟩) (Kd.S_types HO_3.out BK_3.out (by decide)) (fun _ hk => hk.2) (.int .u8 t_17)) (fun _ hk => hk.2) (.int .u64 t_18)) (fun _ hk => hk.2) (.int .u64 t_19)) (fun _ hk => hk.2) (.int .u64 t_20)) (fun _ hk => hk.2) (.int .u64 t_21)) (fun _ hk => hk.2) (.bool t_22)) (fun _ hk => hk.2) (.slice Ao_3 t_23.length co_3)) (fun _ hk => hk.2) (.int .u64 t_24)) (fun _ hk => hk.2) (.int .u64 t_25)) (fun _ hk => hk.2) (.slice Ao_4 t_26.length co_4)) (fun _ hk => hk.2) (.string t_27)) (fun _ h_ => h_.1))) hb); replace HO_4 := a_ (Kd.R_below (by refine rq_ ?_; exact (Kd.R_mono (Kd.R_far (p := ⟨gb_3, 10, none⟩) (Kd.R_far (p := ⟨gb_3, 9, none⟩) (Kd.R_far (p := ⟨gb_3, 8, none⟩) (Kd.R_far (p := ⟨gb_3, 7, none⟩) (Kd.R_far (p := ⟨gb_3, 6, none⟩) (Kd.R_far (p := ⟨gb_3, 5, none⟩) (Kd.R_far (p := ⟨gb_3, 4, none⟩) (Kd.R_far (p := ⟨gb_3, 3, none⟩) (Kd.R_far (p := ⟨gb_3, 2, none⟩) (Kd.R_far (p := ⟨gb_3, 1, none⟩) (Kd.R_far (p := ⟨gb_3, 0, none⟩) (Kd.R_types HO_4.out BK_3.out (by decide)) (fun _ hk => hk.2) (.int .u8 t_17)) (fun _ hk => hk.2) (.int .u64 t_18)) (fun _ hk => hk.2) (.int .u64 t_19)) (fun _ hk => hk.2) (.int .u64 t_20)) (fun _ hk => hk.2) (.int .u64 t_21)) (fun _ hk => hk.2) (.bool t_22)) (fun _ hk => hk.2) (.slice Ao_3 t_23.length co_3)) (fun _ hk => hk.2) (.int .u64 t_24)) (fun _ hk => hk.2) (.int .u64 t_25)) (fun _ hk => hk.2) (.slice Ao_4 t_26.length co_4)) (fun _ hk => hk.2) (.string t_27)) (fun _ h_ => h_.1))) hb); replace BK_1 := a_ (blk_below (g := gb_1) (o := .cells #[.int .u8 2, .int .u64 2, .int .u64 0, .int .u64 0, .int .u64 0, .bool true, .slice none 0 0, .int .u64 0, .int .u64 0, .slice none 0 0, .string (⟨#[]⟩ : ByteArray)] 37 (0, 0)) (bp_1 BK_1 NB_3) hb); replace BK_2 := a_ (blk_below (g := gb_2) (o := .cells #[.int .u8 t_5, .int .u64 t_6, .int .u64 t_7, .int .u64 t_8, .int .u64 t_9, .bool t_10, .slice Ao_1 t_11.length co_1, .int .u64 t_12, .int .u64 t_13, .slice Ao_2 t_14.length co_2, .string t_15] 37 (0, 0)) (bp_1 BK_2 NB_5) hb); replace BK_3 := a_ (blk_below (g := gb_3) (o := .cells #[.int .u8 t_17, .int .u64 t_18, .int .u64 t_19, .int .u64 t_20, .int .u64 t_21, .bool t_22, .slice Ao_3 t_23.length co_3, .int .u64 t_24, .int .u64 t_25, .slice Ao_4 t_26.length co_4, .string t_27] 37 (0, 0)) (bp_0 BK_3) hb); replace HB := hB_ (bl_3 HB GE_1 GE_2 GE_3) hb; (try clear hb)))
 go_ret
 exact ⟨fz_, bl_3 HB GE_1 GE_2 GE_3⟩

/-! ### gafferlaw13_MsgBack: function 5 -/
def gafferlaw13_MsgBack.j0 : Nat → ByteArray → Option (Bool)
 | 0, _ => none
 | k + 1, x1 => (msg_Decode.f k x1).bind fun bt345 => (if bt345.2.2.2.2.2.2.2.2.2.2.2 = 0 then ((msg_Encode.f k bt345.1 bt345.2.1 bt345.2.2.1 bt345.2.2.2.1 bt345.2.2.2.2.1 bt345.2.2.2.2.2.1 bt345.2.2.2.2.2.2.1 bt345.2.2.2.2.2.2.2.1 bt345.2.2.2.2.2.2.2.2.1 bt345.2.2.2.2.2.2.2.2.2.1 bt345.2.2.2.2.2.2.2.2.2.2.1).bind fun bt362 => (if bt362.2 = 0 then (if bt362.1.toList = x1.toList then ((msg_Check.f k bt345.1 bt345.2.1 bt345.2.2.1 bt345.2.2.2.1 bt345.2.2.2.2.1 bt345.2.2.2.2.2.1 bt345.2.2.2.2.2.2.1 bt345.2.2.2.2.2.2.2.1 bt345.2.2.2.2.2.2.2.2.1 bt345.2.2.2.2.2.2.2.2.2.1 bt345.2.2.2.2.2.2.2.2.2.2.1).bind fun t364 => (some (t364 == 0))) else (some false)) else (some false))) else (if bt345.2.2.2.2.2.2.2.2.2.2.2 = 4 then ((gafferref13_Same.f k bt345.1 bt345.2.1 bt345.2.2.1 bt345.2.2.2.1 bt345.2.2.2.2.1 bt345.2.2.2.2.2.1 bt345.2.2.2.2.2.2.1 bt345.2.2.2.2.2.2.2.1 bt345.2.2.2.2.2.2.2.2.1 bt345.2.2.2.2.2.2.2.2.2.1 bt345.2.2.2.2.2.2.2.2.2.2.1 0 0 0 0 0 false ([] : List (S67)) 0 0 ([] : List Int) (⟨#[]⟩ : ByteArray)).bind fun t365 => (some t365)) else (some false)))
def gafferlaw13_MsgBack.f (k : Nat) (a0_0 : Int) (a0_1 : Int) (a0_2 : Int) (a0_3 : Int) (a0_4 : Int) (a0_5 : Bool) (l0_6 : List (S67)) (a0_7 : Int) (a0_8 : Int) (l0_9 : List Int) (a0_10 : ByteArray) (a1 : ByteArray) : Option (Bool) := (gafferlaw13_lives.f k).bind fun t290 => (if t290 = true then ((msg_Encode.f k a0_0 a0_1 a0_2 a0_3 a0_4 a0_5 l0_6 a0_7 a0_8 l0_9 a0_10).bind fun bt291 => (if bt291.2 = 0 then ((msg_Decode.f k bt291.1).bind fun bt293 => (if bt291.1.size + 1 ≤ 9223372036854775807 then ((msg_Decode.f k (bt291.1 ++ (⟨#[0]⟩ : ByteArray))).bind fun bt310 => (if 0 ≤ (wrap64 ((bt291.1.size : Int) - 1)) then (if (wrap64 ((bt291.1.size : Int) - 1)) ≤ (bt291.1.size : Int) then ((msg_Decode.f k (bt291.1.extract 0 ((wrap64 ((bt291.1.size : Int) - 1)) : Int).toNat)).bind fun bt327 => (if bt293.2.2.2.2.2.2.2.2.2.2.2 = 0 then ((gafferref13_Same.f k a0_0 a0_1 a0_2 a0_3 a0_4 a0_5 l0_6 a0_7 a0_8 l0_9 a0_10 bt293.1 bt293.2.1 bt293.2.2.1 bt293.2.2.2.1 bt293.2.2.2.2.1 bt293.2.2.2.2.2.1 bt293.2.2.2.2.2.2.1 bt293.2.2.2.2.2.2.2.1 bt293.2.2.2.2.2.2.2.2.1 bt293.2.2.2.2.2.2.2.2.2.1 bt293.2.2.2.2.2.2.2.2.2.2.1).bind fun t344 => (if t344 = true then (if bt310.2.2.2.2.2.2.2.2.2.2.2 = 4 then (if bt327.2.2.2.2.2.2.2.2.2.2.2 = 4 then (gafferlaw13_MsgBack.j0 k a1) else (some false)) else (some false)) else (some false))) else (some false))) else (none)) else (none))) else (none))) else (gafferlaw13_MsgBack.j0 k a1))) else (some false))
theorem gafferlaw13_MsgBack.mono_l : ∀ k, (∀ y0, LeO (gafferlaw13_MsgBack.j0 k y0) (gafferlaw13_MsgBack.j0 (k + 1) y0))
 | 0 => fun _ r h => by simp [gafferlaw13_MsgBack.j0] at h
 | k + 1 => by
  have ih0 := gafferlaw13_MsgBack.mono_l k
  ·intro y0
   unfold gafferlaw13_MsgBack.j0
   repeat' with_reducible first | exact ih0 _ | exact gafferlaw13_lives.mono _ | exact gafferref13_Same.mono _ _ _ _ _ _ _ _ _ _ _ _ _ _ _ _ _ _ _ _ _ _ _ | exact msg_Check.mono _ _ _ _ _ _ _ _ _ _ _ _ | exact msg_Decode.mono _ _ | exact msg_Encode.mono _ _ _ _ _ _ _ _ _ _ _ _ | exact LeO.refl _ | exact LeO.none _ | refine LeO.ite ?_ ?_ | refine LeO.bind ?_ (fun _ => ?_)
theorem gafferlaw13_MsgBack.mono : ∀ a0 a1 a2 a3 a4 a5 a6 a7 a8 a9 a10 a11 k, LeO (gafferlaw13_MsgBack.f k a0 a1 a2 a3 a4 a5 a6 a7 a8 a9 a10 a11) (gafferlaw13_MsgBack.f (k + 1) a0 a1 a2 a3 a4 a5 a6 a7 a8 a9 a10 a11) := by
 intro a0 a1 a2 a3 a4 a5 a6 a7 a8 a9 a10 a11 k
 have ih0 := gafferlaw13_MsgBack.mono_l k
 unfold gafferlaw13_MsgBack.f
 repeat' with_reducible first | exact ih0 _ | exact gafferlaw13_lives.mono _ | exact gafferref13_Same.mono _ _ _ _ _ _ _ _ _ _ _ _ _ _ _ _ _ _ _ _ _ _ _ | exact msg_Check.mono _ _ _ _ _ _ _ _ _ _ _ _ | exact msg_Decode.mono _ _ | exact msg_Encode.mono _ _ _ _ _ _ _ _ _ _ _ _ | exact LeO.refl _ | exact LeO.none _ | refine LeO.ite ?_ ?_ | refine LeO.bind ?_ (fun _ => ?_)
theorem gafferlaw13_MsgBack.calls (k : Nat) (a0_0 : Int) (a0_1 : Int) (a0_2 : Int) (a0_3 : Int) (a0_4 : Int) (a0_5 : Bool) (A0_6 : Option Addr) (c0_6 : Nat) (l0_6 : List (S67)) (a0_7 : Int) (a0_8 : Int) (A0_9 : Option Addr) (c0_9 : Nat) (l0_9 : List Int) (a0_10 : ByteArray) (a1 : ByteArray) (r : Bool) (w : World) (hr0_6 : Kd.C k67 w A0_6 l0_6.length l0_6) (hc0_6 : l0_6.length ≤ c0_6) (hr0_9 : Kd.C (Kd.int .i64) w A0_9 l0_9.length l0_9) (hc0_9 : l0_9.length ≤ c0_9) (h : gafferlaw13_MsgBack.f k a0_0 a0_1 a0_2 a0_3 a0_4 a0_5 l0_6 a0_7 a0_8 l0_9 a0_10 a1 = some r) (hr : r = true) :
  Calls Try.prog 5 #[.agg #[.int .u8 a0_0, .int .u64 a0_1, .int .u64 a0_2, .int .u64 a0_3, .int .u64 a0_4, .bool a0_5, .slice A0_6 l0_6.length c0_6, .int .u64 a0_7, .int .u64 a0_8, .slice A0_9 l0_9.length c0_9, .string a0_10], .string a1] w fun e w' => e = .returned (.bool r) ∧ Below w.heap.size w w' := by
 have hu_1 := Try.underlying37
 have HR_1 := a_ hr0_6
 have HC_1 := a_ hc0_6
 clear hr0_6 hc0_6
 have HR_2 := a_ hr0_9
 have HC_2 := a_ hc0_9
 clear hr0_9 hc0_9
 have HB := a_ (Below.refl w.heap.size w)
 have H : ((gafferlaw13_lives.f k).bind fun t290 => (if t290 = true then ((msg_Encode.f k a0_0 a0_1 a0_2 a0_3 a0_4 a0_5 l0_6 a0_7 a0_8 l0_9 a0_10).bind fun bt291 => (if bt291.2 = 0 then ((msg_Decode.f k bt291.1).bind fun bt293 => (if bt291.1.size + 1 ≤ 9223372036854775807 then ((msg_Decode.f k (bt291.1 ++ (⟨#[0]⟩ : ByteArray))).bind fun bt310 => (if 0 ≤ (wrap64 ((bt291.1.size : Int) - 1)) then (if (wrap64 ((bt291.1.size : Int) - 1)) ≤ (bt291.1.size : Int) then ((msg_Decode.f k (bt291.1.extract 0 ((wrap64 ((bt291.1.size : Int) - 1)) : Int).toNat)).bind fun bt327 => (if bt293.2.2.2.2.2.2.2.2.2.2.2 = 0 then ((gafferref13_Same.f k a0_0 a0_1 a0_2 a0_3 a0_4 a0_5 l0_6 a0_7 a0_8 l0_9 a0_10 bt293.1 bt293.2.1 bt293.2.2.1 bt293.2.2.2.1 bt293.2.2.2.2.1 bt293.2.2.2.2.2.1 bt293.2.2.2.2.2.2.1 bt293.2.2.2.2.2.2.2.1 bt293.2.2.2.2.2.2.2.2.1 bt293.2.2.2.2.2.2.2.2.2.1 bt293.2.2.2.2.2.2.2.2.2.2.1).bind fun t344 => (if t344 = true then (if bt310.2.2.2.2.2.2.2.2.2.2.2 = 4 then (if bt327.2.2.2.2.2.2.2.2.2.2.2 = 4 then (gafferlaw13_MsgBack.j0 k a1) else (some false)) else (some false)) else (some false))) else (some false))) else (none)) else (none))) else (none))) else (gafferlaw13_MsgBack.j0 k a1))) else (some false))) = some r := h
 clear h
 obtain ⟨t_1, A_1, H⟩ := Option.bind_eq_some_iff.mp H
 try dsimp only at H
 have A_2 := a_ A_1
 clear A_1
 by_cases c_1 : t_1 = true
 rotate_left
 ·replace c_1 := Bool.eq_false_iff.mpr c_1
  subst c_1
  have H_1 : (some false) = some r := by rw [if_neg (show ¬ (false = true) by decide)] at H; exact H
  clear H
  have H := H_1
  clear H_1
  exact absurd (H.trans (congrArg some hr)) (by simp)
 subst c_1
 have H_1 : ((msg_Encode.f k a0_0 a0_1 a0_2 a0_3 a0_4 a0_5 l0_6 a0_7 a0_8 l0_9 a0_10).bind fun bt291 => (if bt291.2 = 0 then ((msg_Decode.f k bt291.1).bind fun bt293 => (if bt291.1.size + 1 ≤ 9223372036854775807 then ((msg_Decode.f k (bt291.1 ++ (⟨#[0]⟩ : ByteArray))).bind fun bt310 => (if 0 ≤ (wrap64 ((bt291.1.size : Int) - 1)) then (if (wrap64 ((bt291.1.size : Int) - 1)) ≤ (bt291.1.size : Int) then ((msg_Decode.f k (bt291.1.extract 0 ((wrap64 ((bt291.1.size : Int) - 1)) : Int).toNat)).bind fun bt327 => (if bt293.2.2.2.2.2.2.2.2.2.2.2 = 0 then ((gafferref13_Same.f k a0_0 a0_1 a0_2 a0_3 a0_4 a0_5 l0_6 a0_7 a0_8 l0_9 a0_10 bt293.1 bt293.2.1 bt293.2.2.1 bt293.2.2.2.1 bt293.2.2.2.2.1 bt293.2.2.2.2.2.1 bt293.2.2.2.2.2.2.1 bt293.2.2.2.2.2.2.2.1 bt293.2.2.2.2.2.2.2.2.1 bt293.2.2.2.2.2.2.2.2.2.1 bt293.2.2.2.2.2.2.2.2.2.2.1).bind fun t344 => (if t344 = true then (if bt310.2.2.2.2.2.2.2.2.2.2.2 = 4 then (if bt327.2.2.2.2.2.2.2.2.2.2.2 = 4 then (gafferlaw13_MsgBack.j0 k a1) else (some false)) else (some false)) else (some false))) else (some false))) else (none)) else (none))) else (none))) else (gafferlaw13_MsgBack.j0 k a1))) = some r := by rw [if_pos rfl] at H; exact H
 clear H
 have H := H_1
 clear H_1
 obtain ⟨⟨t_2, t_3⟩, A_3, H⟩ := Option.bind_eq_some_iff.mp H
 try dsimp only at H
 have A_4 := a_ A_3
 clear A_3
 have HC_3 := a_ H
 clear H
 go_enter Try.func5, Try.ntmps5
 go_upto_if 24 with (first | ((with_reducible refine gd_ 2 ?_); refine bx_ 2 #[.int .u8 a0_0, .int .u64 a0_1, .int .u64 a0_2, .int .u64 a0_3, .int .u64 a0_4, .bool a0_5, .slice A0_6 l0_6.length c0_6, .int .u64 a0_7, .int .u64 a0_8, .slice A0_9 l0_9.length c0_9, .string a0_10] 37 ?_; intro gb_1 hg w_1 hbox hb; have BK_1 := a_ (hbox); have GE_1 := a_ (bs_0 hg HB); replace HB := hB_ (bl_ HB) hb; clear hb hbox hg) | ((with_reducible refine gk_ 17 ?_); refine gl_ (some 16) Try.func17 #[] ?_; (with_reducible refine (gafferlaw13_lives.calls k  true _ A_2.out).mono ?_); rintro e w_2 ⟨rfl, hb⟩; refine ⟨_, rfl, ?_⟩; replace BK_1 := bB_ BK_1 hb; replace HB := hB_ (bl_1 HB GE_1) hb; (try clear hb); obtain ⟨hcz_1, hcz_2, hcz_3, hcz_4, hcz_5, hcz_6, hcz_7, hcz_8, hcz_9, hcz_10, hcz_11, hfz_1, hfz_2, hfz_3, hfz_4, hfz_5, hfz_6, hfz_7, hfz_8, hfz_9, hfz_10, hfz_11⟩ := c11_ BK_1) | ((with_reducible refine gk_ 13 ?_); refine gl_ (some 20) Try.func13 #[.agg #[.int .u8 a0_0, .int .u64 a0_1, .int .u64 a0_2, .int .u64 a0_3, .int .u64 a0_4, .bool a0_5, .slice A0_6 l0_6.length c0_6, .int .u64 a0_7, .int .u64 a0_8, .slice A0_9 l0_9.length c0_9, .string a0_10]] ?_; (with_reducible refine (msg_Encode.calls k a0_0 a0_1 a0_2 a0_3 a0_4 a0_5 _ _ l0_6 a0_7 a0_8 _ _ l0_9 a0_10 t_2 t_3 _ ?side1 ?side2 ?side3 ?side4 A_4.out).mono ?_); (case side1 => exact cl_ (Kd.C_below HR_1.out HB.out)); (case side2 => exact HC_1.out); (case side3 => exact cl_ (Kd.C_below HR_2.out HB.out)); (case side4 => exact HC_2.out); rintro e w_3 ⟨rfl, hb⟩; refine ⟨_, rfl, ?_⟩; replace BK_1 := bB_ BK_1 hb; replace HB := hB_ (bl_1 HB GE_1) hb; (try clear hb)))
 (try simp only [Act.put, List.setIfInBounds_toArray, List.set_cons_zero, List.set_cons_succ])
 go_cut [] (fun wc => ∃ (kq : Nat), Aside0 (gafferlaw13_MsgBack.j0 kq a1 = some r) ∧ Aside0 (kq ≤ k) ∧ Aside0 (wc.heap[gb_1]? = some (.cells #[.int .u8 a0_0, .int .u64 a0_1, .int .u64 a0_2, .int .u64 a0_3, .int .u64 a0_4, .bool a0_5, (.slice A0_6 l0_6.length c0_6), .int .u64 a0_7, .int .u64 a0_8, (.slice A0_9 l0_9.length c0_9), .string a0_10] 37 (0, 0))) ∧ Aside0 (Below w.heap.size w wc))
 case first =>
  have H := HC_3.out
  clear HC_3
  by_cases c_2 : t_3 = 0
  rotate_left
  focus
   rw [if_neg c_2] at H
   have c_3 : (t_3 == 0) = false := beq_eq_false_iff_ne.mpr c_2
   have c_4 : (t_3 != 0) = true := bne_iff_ne.mpr c_2
   (first | rw [c_3] | (simp only [i64_w, i32_w]; rw [c_3]) | skip)
   have H' := a_ H
   clear H
   have L0_ := trivial
  rotate_left
  focus
   rw [if_pos c_2] at H
   have c_3 : (t_3 == 0) = true := beq_iff_eq.mpr c_2
   have c_4 : (t_3 != 0) = false := bne_eq_false_iff_eq.mpr c_2
   clear c_2
   (first | rw [c_3] | (simp only [i64_w, i32_w]; rw [c_3]) | skip)
   obtain ⟨⟨t_4, t_5, t_6, t_7, t_8, t_9, t_10, t_11, t_12, t_13, t_14, t_15⟩, A_5, H⟩ := Option.bind_eq_some_iff.mp H
   try dsimp only at H
   have A_6 := a_ A_5
   clear A_5
   by_cases c_5 : t_2.size + 1 ≤ 9223372036854775807
   rotate_left
   ·rw [if_neg c_5] at H
    exact absurd H (by simp)
   rw [if_pos c_5] at H
   have c_6 := eq_true c_5
   have c_7 : decide (t_2.size + 1 ≤ 9223372036854775807) = true := decide_eq_true c_5
   try have c_8 : (9223372036854775807 < t_2.size + 1) = False := eq_false (Nat.not_lt.2 c_5)
   clear c_5
   obtain ⟨⟨t_16, t_17, t_18, t_19, t_20, t_21, t_22, t_23, t_24, t_25, t_26, t_27⟩, A_7, H⟩ := Option.bind_eq_some_iff.mp H
   try dsimp only at H
   have A_8 := a_ A_7
   clear A_7
   obtain ⟨ji_1, hji_1⟩ : ∃ j_ : Int, (wrap64 ((t_2.size : Int) - 1)) = j_ := ⟨_, rfl⟩
   replace H : (if 0 ≤ (ji_1) then (if (ji_1) ≤ (t_2.size : Int) then ((msg_Decode.f k (t_2.extract 0 ((ji_1) : Int).toNat)).bind fun bt327 => (if t_15 = 0 then ((gafferref13_Same.f k a0_0 a0_1 a0_2 a0_3 a0_4 a0_5 l0_6 a0_7 a0_8 l0_9 a0_10 t_4 t_5 t_6 t_7 t_8 t_9 t_10 t_11 t_12 t_13 t_14).bind fun t344 => (if t344 = true then (if t_27 = 4 then (if bt327.2.2.2.2.2.2.2.2.2.2.2 = 4 then (gafferlaw13_MsgBack.j0 k a1) else (some false)) else (some false)) else (some false))) else (some false))) else (none)) else (none)) = some r := by first | (rw [hji_1] at H; exact H) | (simp only [hji_1] at H ⊢; exact H)
   (try rw [hji_1] at A_6)
   (try rw [hji_1] at A_8)
   have hji_2 : (IntKind.i64.wrap ((t_2.size : Int) - 1)) = ji_1 := (i64_w _).trans hji_1
   by_cases c_9 : 0 ≤ (ji_1)
   rotate_left
   ·rw [if_neg c_9] at H
    exact absurd H (by simp)
   rw [if_pos c_9] at H
   have c_10 := eq_true c_9
   have c_11 : decide (0 ≤ (ji_1)) = true := decide_eq_true c_9
   clear c_9
   by_cases c_12 : (ji_1) ≤ (t_2.size : Int)
   rotate_left
   ·rw [if_neg c_12] at H
    exact absurd H (by simp)
   rw [if_pos c_12] at H
   have c_13 := eq_true c_12
   have c_14 : decide ((ji_1) ≤ (t_2.size : Int)) = true := decide_eq_true c_12
   clear c_12
   obtain ⟨⟨t_28, t_29, t_30, t_31, t_32, t_33, t_34, t_35, t_36, t_37, t_38, t_39⟩, A_9, H⟩ := Option.bind_eq_some_iff.mp H
   try dsimp only at H
   have A_10 := a_ A_9
   clear A_9
   by_cases c_15 : t_15 = 0
   rotate_left
   ·rw [if_neg c_15] at H
    have c_16 : (t_15 == 0) = false := beq_eq_false_iff_ne.mpr c_15
    have c_17 : (t_15 != 0) = true := bne_iff_ne.mpr c_15
    exact absurd (H.trans (congrArg some hr)) (by simp)
   rw [if_pos c_15] at H
   have c_16 : (t_15 == 0) = true := beq_iff_eq.mpr c_15
   have c_17 : (t_15 != 0) = false := bne_eq_false_iff_eq.mpr c_15
   clear c_15
   obtain ⟨t_40, A_11, H⟩ := Option.bind_eq_some_iff.mp H
   try dsimp only at H
   have A_12 := a_ A_11
   clear A_11
   by_cases c_18 : t_40 = true
   rotate_left
   ·replace c_18 := Bool.eq_false_iff.mpr c_18
    subst c_18
    have H_1 : (some false) = some r := by rw [if_neg (show ¬ (false = true) by decide)] at H; exact H
    clear H
    have H := H_1
    clear H_1
    exact absurd (H.trans (congrArg some hr)) (by simp)
   subst c_18
   have H_1 : (if t_27 = 4 then (if t_39 = 4 then (gafferlaw13_MsgBack.j0 k a1) else (some false)) else (some false)) = some r := by rw [if_pos rfl] at H; exact H
   clear H
   have H := H_1
   clear H_1
   by_cases c_19 : t_27 = 4
   rotate_left
   ·rw [if_neg c_19] at H
    have c_20 : (t_27 == 4) = false := beq_eq_false_iff_ne.mpr c_19
    have c_21 : (t_27 != 4) = true := bne_iff_ne.mpr c_19
    exact absurd (H.trans (congrArg some hr)) (by simp)
   rw [if_pos c_19] at H
   have c_20 : (t_27 == 4) = true := beq_iff_eq.mpr c_19
   have c_21 : (t_27 != 4) = false := bne_eq_false_iff_eq.mpr c_19
   clear c_19
   by_cases c_22 : t_39 = 4
   rotate_left
   ·rw [if_neg c_22] at H
    have c_23 : (t_39 == 4) = false := beq_eq_false_iff_ne.mpr c_22
    have c_24 : (t_39 != 4) = true := bne_iff_ne.mpr c_22
    exact absurd (H.trans (congrArg some hr)) (by simp)
   rw [if_pos c_22] at H
   have c_23 : (t_39 == 4) = true := beq_iff_eq.mpr c_22
   have c_24 : (t_39 != 4) = false := bne_eq_false_iff_eq.mpr c_22
   clear c_22
   have H' := a_ H
   clear H
   have L1_ := trivial
  all_goals
   first
   | (have _ := L0_
      go_wp2
      go_meet
      case rel => exact ⟨_, H', ⟨by first | omega | exact Nat.le_refl _⟩, ⟨bk_ BK_1⟩, ⟨bl_1 HB GE_1⟩⟩)
   | (have _ := L1_
      go_wp2_with (first | ((with_reducible refine gk_ 15 ?_); refine gl_ (some 27) Try.func15 #[.string t_2] ?_; (with_reducible refine (msg_Decode.calls k t_2 t_4 t_5 t_6 t_7 t_8 t_9 t_10 t_11 t_12 t_13 t_14 t_15 _ A_6.out).mono ?_); rintro e w_4 ⟨v_1, v_2, rfl, ho_1, ho_2, hb⟩; refine ⟨_, rfl, ?_⟩; have HO_1 := a_ (Kd.S_lower ho_1 (below_size (bl_1 HB GE_1))); have HO_2 := a_ (Kd.R_lower ho_2 (below_size (bl_1 HB GE_1))); replace BK_1 := bB_ BK_1 hb; replace HB := hB_ (bl_1 HB GE_1) hb; (try clear hb); (try clear ho_1); (try clear ho_2)) | ((with_reducible refine gd_ 7 ?_); refine bx_ 7 #[.int .u8 0, .int .u64 0, .int .u64 0, .int .u64 0, .int .u64 0, .bool false, .slice none 0 0, .int .u64 0, .int .u64 0, .slice none 0 0, .string (⟨#[]⟩ : ByteArray)] 37 ?_; intro gb_2 hg w_5 hbox hb; replace HO_1 := a_ (Kd.S_below (by (with_reducible repeat (first | apply Kd.S_alloc | apply Kd.S_drewN | apply Kd.S_drew)); exact HO_1.out) hb); replace HO_2 := a_ (Kd.R_below (by refine rq_ ?_; exact HO_2.out) hb); have BK_2 := a_ (hbox); have GE_2 := a_ (bs_1 hg HB GE_1); replace HB := hB_ (bl_1 HB GE_1) hb; have NB_1 := nB_ hg BK_1; have NB_2 := nC_ hg BK_1; replace BK_1 := bB_ BK_1 hb; clear hb hbox hg; have hnb_1 := NB_2.out; have hnc_1 := NB_1.out; obtain ⟨hcz_12, hcz_13, hcz_14, hcz_15, hcz_16, hcz_17, hcz_18, hcz_19, hcz_20, hcz_21, hcz_22, hfz_12, hfz_13, hfz_14, hfz_15, hfz_16, hfz_17, hfz_18, hfz_19, hfz_20, hfz_21, hfz_22⟩ := c11_ BK_2; obtain ⟨Ao_1, co_1, eo_1⟩ := Kd.S_slice HO_1.out; subst eo_1; obtain ⟨Ao_2, co_2, eo_2⟩ := Kd.R_slice HO_2.out; subst eo_2) | ((with_reducible refine gk_ 15 ?_); refine gl_ (some 33) Try.func15 #[.string (t_2 ++ (⟨#[0]⟩ : ByteArray))] ?_; (with_reducible refine (msg_Decode.calls k (t_2 ++ (⟨#[0]⟩ : ByteArray)) t_16 t_17 t_18 t_19 t_20 t_21 t_22 t_23 t_24 t_25 t_26 t_27 _ A_8.out).mono ?_); rintro e w_6 ⟨v_3, v_4, rfl, ho_1, ho_2, hb⟩; refine ⟨_, rfl, ?_⟩; have HO_3 := a_ (Kd.S_lower (Kd.S_new' (Kd.S_new' ho_1 (Kd.S_lt (by (with_reducible repeat (first | apply Kd.S_alloc | apply Kd.S_drewN | apply Kd.S_drew)); exact (Kd.S_mono (Kd.S_far (p := ⟨gb_2, 10, none⟩) (Kd.S_far (p := ⟨gb_2, 9, none⟩) (Kd.S_far (p := ⟨gb_2, 8, none⟩) (Kd.S_far (p := ⟨gb_2, 7, none⟩) (Kd.S_far (p := ⟨gb_2, 6, none⟩) (Kd.S_far (p := ⟨gb_2, 5, none⟩) (Kd.S_far (p := ⟨gb_2, 4, none⟩) (Kd.S_far (p := ⟨gb_2, 3, none⟩) (Kd.S_far (p := ⟨gb_2, 2, none⟩) (Kd.S_far (p := ⟨gb_2, 1, none⟩) (Kd.S_far (p := ⟨gb_2, 0, none⟩) (Kd.S_types HO_1.out BK_2.out (by decide)) (fun _ hk => hk.2) (.int .u8 t_4)) (fun _ hk => hk.2) (.int .u64 t_5)) (fun _ hk => hk.2) (.int .u64 t_6)) (fun _ hk => hk.2) (.int .u64 t_7)) (fun _ hk => hk.2) (.int .u64 t_8)) (fun _ hk => hk.2) (.bool t_9)) (fun _ hk => hk.2) (.slice Ao_1 t_10.length co_1)) (fun _ hk => hk.2) (.int .u64 t_11)) (fun _ hk => hk.2) (.int .u64 t_12)) (fun _ hk => hk.2) (.slice Ao_2 t_13.length co_2)) (fun _ hk => hk.2) (.string t_14)) (fun _ h_ => h_.1))))) (Kd.R_lt (by refine rq_ ?_; exact (Kd.R_mono (Kd.R_far (p := ⟨gb_2, 10, none⟩) (Kd.R_far (p := ⟨gb_2, 9, none⟩) (Kd.R_far (p := ⟨gb_2, 8, none⟩) (Kd.R_far (p := ⟨gb_2, 7, none⟩) (Kd.R_far (p := ⟨gb_2, 6, none⟩) (Kd.R_far (p := ⟨gb_2, 5, none⟩) (Kd.R_far (p := ⟨gb_2, 4, none⟩) (Kd.R_far (p := ⟨gb_2, 3, none⟩) (Kd.R_far (p := ⟨gb_2, 2, none⟩) (Kd.R_far (p := ⟨gb_2, 1, none⟩) (Kd.R_far (p := ⟨gb_2, 0, none⟩) (Kd.R_types HO_2.out BK_2.out (by decide)) (fun _ hk => hk.2) (.int .u8 t_4)) (fun _ hk => hk.2) (.int .u64 t_5)) (fun _ hk => hk.2) (.int .u64 t_6)) (fun _ hk => hk.2) (.int .u64 t_7)) (fun _ hk => hk.2) (.int .u64 t_8)) (fun _ hk => hk.2) (.bool t_9)) (fun _ hk => hk.2) (.slice Ao_1 t_10.length co_1)) (fun _ hk => hk.2) (.int .u64 t_11)) (fun _ hk => hk.2) (.int .u64 t_12)) (fun _ hk => hk.2) (.slice Ao_2 t_13.length co_2)) (fun _ hk => hk.2) (.string t_14)) (fun _ h_ => h_.1))))) (below_size (bl_2 HB GE_1 GE_2))); replace HO_1 := a_ (Kd.S_mono (Kd.S_told (Kd.S_told (Kd.S_old (by (with_reducible repeat (first | apply Kd.S_alloc | apply Kd.S_drewN | apply Kd.S_drew)); exact (Kd.S_mono (Kd.S_far (p := ⟨gb_2, 10, none⟩) (Kd.S_far (p := ⟨gb_2, 9, none⟩) (Kd.S_far (p := ⟨gb_2, 8, none⟩) (Kd.S_far (p := ⟨gb_2, 7, none⟩) (Kd.S_far (p := ⟨gb_2, 6, none⟩) (Kd.S_far (p := ⟨gb_2, 5, none⟩) (Kd.S_far (p := ⟨gb_2, 4, none⟩) (Kd.S_far (p := ⟨gb_2, 3, none⟩) (Kd.S_far (p := ⟨gb_2, 2, none⟩) (Kd.S_far (p := ⟨gb_2, 1, none⟩) (Kd.S_far (p := ⟨gb_2, 0, none⟩) (Kd.S_types HO_1.out BK_2.out (by decide)) (fun _ hk => hk.2) (.int .u8 t_4)) (fun _ hk => hk.2) (.int .u64 t_5)) (fun _ hk => hk.2) (.int .u64 t_6)) (fun _ hk => hk.2) (.int .u64 t_7)) (fun _ hk => hk.2) (.int .u64 t_8)) (fun _ hk => hk.2) (.bool t_9)) (fun _ hk => hk.2) (.slice Ao_1 t_10.length co_1)) (fun _ hk => hk.2) (.int .u64 t_11)) (fun _ hk => hk.2) (.int .u64 t_12)) (fun _ hk => hk.2) (.slice Ao_2 t_13.length co_2)) (fun _ hk => hk.2) (.string t_14)) (fun _ h_ => h_.1))) hb) (Kd.S_base ho_1)) (Kd.R_base ho_2)) (fun _ h_ => h_.1)); have HO_4 := a_ (Kd.R_lower (Kd.R_new' ho_2 (Kd.R_lt (by refine rq_ ?_; exact (Kd.R_mono (Kd.R_far (p := ⟨gb_2, 10, none⟩) (Kd.R_far (p := ⟨gb_2, 9, none⟩) (Kd.R_far (p := ⟨gb_2, 8, none⟩) (Kd.R_far (p := ⟨gb_2, 7, none⟩) (Kd.R_far (p := ⟨gb_2, 6, none⟩) (Kd.R_far (p := ⟨gb_2, 5, none⟩) (Kd.R_far (p := ⟨gb_2, 4, none⟩) (Kd.R_far (p := ⟨gb_2, 3, none⟩) (Kd.R_far (p := ⟨gb_2, 2, none⟩) (Kd.R_far (p := ⟨gb_2, 1, none⟩) (Kd.R_far (p := ⟨gb_2, 0, none⟩) (Kd.R_types HO_2.out BK_2.out (by decide)) (fun _ hk => hk.2) (.int .u8 t_4)) (fun _ hk => hk.2) (.int .u64 t_5)) (fun _ hk => hk.2) (.int .u64 t_6)) (fun _ hk => hk.2) (.int .u64 t_7)) (fun _ hk => hk.2) (.int .u64 t_8)) (fun _ hk => hk.2) (.bool t_9)) (fun _ hk => hk.2) (.slice Ao_1 t_10.length co_1)) (fun _ hk => hk.2) (.int .u64 t_11)) (fun _ hk => hk.2) (.int .u64 t_12)) (fun _ hk => hk.2) (.slice Ao_2 t_13.length co_2)) (fun _ hk => hk.2) (.string t_14)) (fun _ h_ => h_.1))))) (below_size (bl_2 HB GE_1 GE_2))); replace HO_2 := a_ (Kd.R_elder' (by refine rq_ ?_; exact (Kd.R_mono (Kd.R_far (p := ⟨gb_2, 10, none⟩) (Kd.R_far (p := ⟨gb_2, 9, none⟩) (Kd.R_far (p := ⟨gb_2, 8, none⟩) (Kd.R_far (p := ⟨gb_2, 7, none⟩) (Kd.R_far (p := ⟨gb_2, 6, none⟩) (Kd.R_far (p := ⟨gb_2, 5, none⟩) (Kd.R_far (p := ⟨gb_2, 4, none⟩) (Kd.R_far (p := ⟨gb_2, 3, none⟩) (Kd.R_far (p := ⟨gb_2, 2, none⟩) (Kd.R_far (p := ⟨gb_2, 1, none⟩) (Kd.R_far (p := ⟨gb_2, 0, none⟩) (Kd.R_types HO_2.out BK_2.out (by decide)) (fun _ hk => hk.2) (.int .u8 t_4)) (fun _ hk => hk.2) (.int .u64 t_5)) (fun _ hk => hk.2) (.int .u64 t_6)) (fun _ hk => hk.2) (.int .u64 t_7)) (fun _ hk => hk.2) (.int .u64 t_8)) (fun _ hk => hk.2) (.bool t_9)) (fun _ hk => hk.2) (.slice Ao_1 t_10.length co_1)) (fun _ hk => hk.2) (.int .u64 t_11)) (fun _ hk => hk.2) (.int .u64 t_12)) (fun _ hk => hk.2) (.slice Ao_2 t_13.length co_2)) (fun _ hk => hk.2) (.string t_14)) (fun _ h_ => h_.1))) (Kd.R_base ho_2) hb); replace BK_1 := a_ (blk_below (g := gb_1) (o := .cells #[.int .u8 a0_0, .int .u64 a0_1, .int .u64 a0_2, .int .u64 a0_3, .int .u64 a0_4, .bool a0_5, .slice A0_6 l0_6.length c0_6, .int .u64 a0_7, .int .u64 a0_8, .slice A0_9 l0_9.length c0_9, .string a0_10] 37 (0, 0)) (bp_1 BK_1 NB_1) hb); replace BK_2 := a_ (blk_below (g := gb_2) (o := .cells #[.int .u8 t_4, .int .u64 t_5, .int .u64 t_6, .int .u64 t_7, .int .u64 t_8, .bool t_9, .slice Ao_1 t_10.length co_1, .int .u64 t_11, .int .u64 t_12, .slice Ao_2 t_13.length co_2, .string t_14] 37 (0, 0)) (bp_0 BK_2) hb); replace HB := hB_ (bl_2 HB GE_1 GE_2) hb; (try clear hb); (try clear ho_1); (try clear ho_2)) | ((with_reducible refine gd_ 9 ?_); refine bx_ 9 #[.int .u8 0, .int .u64 0, .int .u64 0, .int .u64 0, .int .u64 0, .bool false, .slice none 0 0, .int .u64 0, .int .u64 0, .slice none 0 0, .string (⟨#[]⟩ : ByteArray)] 37 ?_; intro gb_3 hg w_7 hbox hb; replace HO_1 := a_ (Kd.S_below (by (with_reducible repeat (first | apply Kd.S_alloc | apply Kd.S_drewN | apply Kd.S_drew)); exact HO_1.out) hb); replace HO_2 := a_ (Kd.R_below (by refine rq_ ?_; exact HO_2.out) hb); replace HO_3 := a_ (Kd.S_below (by (with_reducible repeat (first | apply Kd.S_alloc | apply Kd.S_drewN | apply Kd.S_drew)); exact HO_3.out) hb); replace HO_4 := a_ (Kd.R_below (by refine rq_ ?_; exact HO_4.out) hb); have BK_3 := a_ (hbox); have GE_3 := a_ (bs_2 hg HB GE_1 GE_2); replace HB := hB_ (bl_2 HB GE_1 GE_2) hb; have NB_3 := nB_ hg BK_1; have NB_4 := nC_ hg BK_1; replace BK_1 := bB_ BK_1 hb; have NB_5 := nB_ hg BK_2; have NB_6 := nC_ hg BK_2; replace BK_2 := bB_ BK_2 hb; clear hb hbox hg; have hnb_2 := NB_4.out; have hnc_2 := NB_3.out; have hnb_3 := NB_6.out; have hnc_3 := NB_5.out; obtain ⟨hcz_23, hcz_24, hcz_25, hcz_26, hcz_27, hcz_28, hcz_29, hcz_30, hcz_31, hcz_32, hcz_33, hfz_23, hfz_24, hfz_25, hfz_26, hfz_27, hfz_28, hfz_29, hfz_30, hfz_31, hfz_32, hfz_33⟩ := c11_ BK_3; obtain ⟨Ao_3, co_3, eo_3⟩ := Kd.S_slice HO_3.out; subst eo_3; obtain ⟨Ao_4, co_4, eo_4⟩ := Kd.R_slice HO_4.out; subst eo_4) | ((with_reducible refine gk_ 15 ?_); refine goesL_ (some 42) rfl rfl Try.func15 (by kernel_rfl) rfl #[.string (t_2.extract 0 ((ji_1) : Int).toNat)] rfl (by (try simp only [List.map_toArray, List.map_cons, List.map_nil]); first | done | (simp only [hji_1]; rfl) | rfl | (simp only [List.length_drop, List.length_take]; rfl)) ?_; (with_reducible refine (msg_Decode.calls k (t_2.extract 0 ((ji_1) : Int).toNat) t_28 t_29 t_30 t_31 t_32 t_33 t_34 t_35 t_36 t_37 t_38 t_39 _ A_10.out).mono ?_); rintro e w_8 ⟨v_5, v_6, rfl, ho_1, ho_2, hb⟩; refine ⟨_, rfl, ?_⟩; have HO_5 := a_ (Kd.S_lower (Kd.S_new' (Kd.S_new' (Kd.S_new' (Kd.S_new' ho_1 (Kd.S_lt (by (with_reducible repeat (first | apply Kd.S_alloc | apply Kd.S_drewN | apply Kd.S_drew)); exact (Kd.S_mono (Kd.S_far (p := ⟨gb_3, 10, none⟩) (Kd.S_far (p := ⟨gb_3, 9, none⟩) (Kd.S_far (p := ⟨gb_3, 8, none⟩) (Kd.S_far (p := ⟨gb_3, 7, none⟩) (Kd.S_far (p := ⟨gb_3, 6, none⟩) (Kd.S_far (p := ⟨gb_3, 5, none⟩) (Kd.S_far (p := ⟨gb_3, 4, none⟩) (Kd.S_far (p := ⟨gb_3, 3, none⟩) (Kd.S_far (p := ⟨gb_3, 2, none⟩) (Kd.S_far (p := ⟨gb_3, 1, none⟩) (Kd.S_far (p := ⟨gb_3, 0, none⟩) (Kd.S_types HO_1.out BK_3.out (by decide)) (fun _ hk => hk.2) (.int .u8 t_16)) (fun _ hk => hk.2) (.int .u64 t_17)) (fun _ hk => hk.2) (.int .u64 t_18)) (fun _ hk => hk.2) (.int .u64 t_19)) (fun _ hk => hk.2) (.int .u64 t_20)) (fun _ hk => hk.2) (.bool t_21)) (fun _ hk => hk.2) (.slice Ao_3 t_22.length co_3)) (fun _ hk => hk.2) (.int .u64 t_23)) (fun _ hk => hk.2) (.int .u64 t_24)) (fun _ hk => hk.2) (.slice Ao_4 t_25.length co_4)) (fun _ hk => hk.2) (.string t_26)) (fun _ h_ => h_.1))))) (Kd.R_lt (by refine rq_ ?_; exact (Kd.R_mono (Kd.R_far (p := ⟨gb_3, 10, none⟩) (Kd.R_far (p := ⟨gb_3, 9, none⟩) (Kd.R_far (p := ⟨gb_3, 8, none⟩) (Kd.R_far (p := ⟨gb_3, 7, none⟩) (Kd.R_far (p := ⟨gb_3, 6, none⟩) (Kd.R_far (p := ⟨gb_3, 5, none⟩) (Kd.R_far (p := ⟨gb_3, 4, none⟩) (Kd.R_far (p := ⟨gb_3, 3, none⟩) (Kd.R_far (p := ⟨gb_3, 2, none⟩) (Kd.R_far (p := ⟨gb_3, 1, none⟩) (Kd.R_far (p := ⟨gb_3, 0, none⟩) (Kd.R_types HO_2.out BK_3.out (by decide)) (fun _ hk => hk.2) (.int .u8 t_16)) (fun _ hk => hk.2) (.int .u64 t_17)) (fun _ hk => hk.2) (.int .u64 t_18)) (fun _ hk => hk.2) (.int .u64 t_19)) (fun _ hk => hk.2) (.int .u64 t_20)) (fun _ hk => hk.2) (.bool t_21)) (fun _ hk => hk.2) (.slice Ao_3 t_22.length co_3)) (fun _ hk => hk.2) (.int .u64 t_23)) (fun _ hk => hk.2) (.int .u64 t_24)) (fun _ hk => hk.2) (.slice Ao_4 t_25.length co_4)) (fun _ hk => hk.2) (.string t_26)) (fun _ h_ => h_.1))))) (Kd.S_lt (by (with_reducible repeat (first | apply Kd.S_alloc | apply Kd.S_drewN | apply Kd.S_drew)); exact (Kd.S_mono (Kd.S_far (p := ⟨gb_3, 10, none⟩) (Kd.S_far (p := ⟨gb_3, 9, none⟩) (Kd.S_far (p := ⟨gb_3, 8, none⟩) (Kd.S_far (p := ⟨gb_3, 7, none⟩) (Kd.S_far (p := ⟨gb_3, 6, none⟩) (Kd.S_far (p := ⟨gb_3, 5, none⟩) (Kd.S_far (p := ⟨gb_3, 4, none⟩) (Kd.S_far (p := ⟨gb_3, 3, none⟩) (Kd.S_far (p := ⟨gb_3, 2, none⟩) (Kd.S_far (p := ⟨gb_3, 1, none⟩) (Kd.S_far (p := ⟨gb_3, 0, none⟩) (Kd.S_types HO_3.out BK_3.out (by decide)) (fun _ hk => hk.2) (.int .u8 t_16)) (fun _ hk => hk.2) (.int .u64 t_17)) (fun _ hk => hk.2) (.int .u64 t_18)) (fun _ hk => hk.2) (.int .u64 t_19)) (fun _ hk => hk.2) (.int .u64 t_20)) (fun _ hk => hk.2) (.bool t_21)) (fun _ hk => hk.2) (.slice Ao_3 t_22.length co_3)) (fun _ hk => hk.2) (.int .u64 t_23)) (fun _ hk => hk.2) (.int .u64 t_24)) (fun _ hk => hk.2) (.slice Ao_4 t_25.length co_4)) (fun _ hk => hk.2) (.string t_26)) (fun _ h_ => h_.1))))) (Kd.R_lt (by refine rq_ ?_; exact (Kd.R_mono (Kd.R_far (p := ⟨gb_3, 10, none⟩) (Kd.R_far (p := ⟨gb_3, 9, none⟩) (Kd.R_far (p := ⟨gb_3, 8, none⟩) (Kd.R_far (p := ⟨gb_3, 7, none⟩) (Kd.R_far (p := ⟨gb_3, 6, none⟩) (Kd.R_far (p := ⟨gb_3, 5, none⟩) (Kd.R_far (p := ⟨gb_3, 4, none⟩) (Kd.R_far (p := ⟨gb_3, 3, none⟩) (Kd.R_far (p := ⟨gb_3, 2, none⟩) (Kd.R_far (p := ⟨gb_3, 1, none⟩) (Kd.R_far (p := ⟨gb_3, 0, none⟩) (Kd.R_types HO_4.out BK_3.out (by decide)) (fun _ hk => hk.2) (.int .u8 t_16)) (fun _ hk => hk.2) (.int .u64 t_17)) (fun _ hk => hk.2) (.int .u64 t_18)) (fun _ hk => hk.2) (.int .u64 t_19)) (fun _ hk => hk.2) (.int .u64 t_20)) (fun _ hk => hk.2) (.bool t_21)) (fun _ hk => hk.2) (.slice Ao_3 t_22.length co_3)) (fun _ hk => hk.2) (.int .u64 t_23)) (fun _ hk => hk.2) (.int .u64 t_24)) (fun _ hk => hk.2) (.slice Ao_4 t_25.length co_4)) (fun _ hk => hk.2) (.string t_26)) (fun _ h_ => h_.1))))) (below_size (bl_3 HB GE_1 GE_2 GE_3))); replace HO_1 := a_ (Kd.S_mono (Kd.S_told (Kd.S_told (Kd.S_old (by (with_reducible repeat (first | apply Kd.S_alloc | apply Kd.S_drewN | apply Kd.S_drew)); exact (Kd.S_mono (Kd.S_far (p := ⟨gb_3, 10, none⟩) (Kd.S_far (p := ⟨gb_3, 9, none⟩) (Kd.S_far (p := ⟨gb_3, 8, none⟩) (Kd.S_far (p := ⟨gb_3, 7, none⟩) (Kd.S_far (p := ⟨gb_3, 6, none⟩) (Kd.S_far (p := ⟨gb_3, 5, none⟩) (Kd.S_far (p := ⟨gb_3, 4, none⟩) (Kd.S_far (p := ⟨gb_3, 3, none⟩) (Kd.S_far (p := ⟨gb_3, 2, none⟩) (Kd.S_far (p := ⟨gb_3, 1, none⟩) (Kd.S_far (p := ⟨gb_3, 0, none⟩) (Kd.S_types HO_1.out BK_3.out (by decide)) (fun _ hk => hk.2) (.int .u8 t_16)) (fun _ hk => hk.2) (.int .u64 t_17)) (fun _ hk => hk.2) (.int .u64 t_18)) (fun _ hk => hk.2) (.int .u64 t_19)) (fun _ hk => hk.2) (.int .u64 t_20)) (fun _ hk => hk.2) (.bool t_21)) (fun _ hk => hk.2) (.slice Ao_3 t_22.length co_3)) (fun _ hk => hk.2) (.int .u64 t_23)) (fun _ hk => hk.2) (.int .u64 t_24)) (fun _ hk => hk.2) (.slice Ao_4 t_25.length co_4)) (fun _ hk => hk.2) (.string t_26)) (fun _ h_ => h_.1))) hb) (Kd.S_base ho_1)) (Kd.R_base ho_2)) (fun _ h_ => h_.1)); replace HO_3 := a_ (Kd.S_mono (Kd.S_told (Kd.S_told (Kd.S_old (by (with_reducible repeat (first | apply Kd.S_alloc | apply Kd.S_drewN | apply Kd.S_drew)); exact (Kd.S_mono (Kd.S_far (p := ⟨gb_3, 10, none⟩) (Kd.S_far (p := ⟨gb_3, 9, none⟩) (Kd.S_far (p := ⟨gb_3, 8, none⟩) (Kd.S_far (p := ⟨gb_3, 7, none⟩) (Kd.S_far (p := ⟨gb_3, 6, none⟩) (Kd.S_far (p := ⟨gb_3, 5, none⟩) (Kd.S_far (p := ⟨gb_3, 4, none⟩) (Kd.S_far (p := ⟨gb_3, 3, none⟩) (Kd.S_far (p := ⟨gb_3, 2, none⟩) (Kd.S_far (p := ⟨gb_3, 1, none⟩) (Kd.S_far (p := ⟨gb_3, 0, none⟩) (Kd.S_types HO_3.out BK_3.out (by decide)) (fun _ hk => hk.2) (.int .u8 t_16)) (fun _ hk => hk.2) (.int .u64 t_17)) (fun _ hk => hk.2) (.int .u64 t_18)) (fun _ hk => hk.2) (.int .u64 t_19)) (fun _ hk => hk.2) (.int .u64 t_20)) (fun _ hk => hk.2) (.bool t_21)) (fun _ hk => hk.2) (.slice Ao_3 t_22.length co_3)) (fun _ hk => hk.2) (.int .u64 t_23)) (fun _ hk => hk.2) (.int .u64 t_24)) (fun _ hk => hk.2) (.slice Ao_4 t_25.length co_4)) (fun _ hk => hk.2) (.string t_26)) (fun _ h_ => h_.1))) hb) (Kd.S_base ho_1)) (Kd.R_base ho_2)) (fun _ h_ => h_.1)); have HO_6 := a_ (Kd.R_lower (Kd.R_new' (Kd.R_new' ho_2 (Kd.R_lt (by refine rq_ ?_; exact (Kd.R_mono (Kd.R_far (p := ⟨gb_3, 10, none⟩) (Kd.R_far (p := ⟨gb_3, 9, none⟩) (Kd.R_far (p := ⟨gb_3, 8, none⟩) (Kd.R_far (p := ⟨gb_3, 7, none⟩) (Kd.R_far (p := ⟨gb_3, 6, none⟩) (Kd.R_far (p := ⟨gb_3, 5, none⟩) (Kd.R_far (p := ⟨gb_3, 4, none⟩) (Kd.R_far (p := ⟨gb_3, 3, none⟩) (Kd.R_far (p := ⟨gb_3, 2, none⟩) (Kd.R_far (p := ⟨gb_3, 1, none⟩) (Kd.R_far (p := ⟨gb_3, 0, none⟩) (Kd.R_types HO_2.out BK_3.out (by decide)) (fun _ hk => hk.2) (.int .u8 t_16)) (fun _ hk => hk.2) (.int .u64 t_17)) (fun _ hk => hk.2) (.int .u64 t_18)) (fun _ hk => hk.2) (.int .u64 t_19)) (fun _ hk => hk.2) (.int .u64 t_20)) (fun _ hk => hk.2) (.bool t_21)) (fun _ hk => hk.2) (.slice Ao_3 t_22.length co_3)) (fun _ hk => hk.2) (.int .u64 t_23)) (fun _ hk => hk.2) (.int .u64 t_24)) (fun _ hk => hk.2) (.slice Ao_4 t_25.length co_4)) (fun _ hk => hk.2) (.string t_26)) (fun _ h_ => h_.1))))) (Kd.R_lt (by refine rq_ ?_; exact (Kd.R_mono (Kd.R_far (p := ⟨gb_3, 10, none⟩) (Kd.R_far (p := ⟨gb_3, 9, none⟩) (Kd.R_far (p := ⟨gb_3, 8, none⟩) (Kd.R_far (p := ⟨gb_3, 7, none⟩) (Kd.R_far (p := ⟨gb_3, 6, none⟩) (Kd.R_far (p := ⟨gb_3, 5, none⟩) (Kd.R_far (p := ⟨gb_3, 4, none⟩) (Kd.R_far (p := ⟨gb_3, 3, none⟩) (Kd.R_far (p := ⟨gb_3, 2, none⟩) (Kd.R_far (p := ⟨gb_3, 1, none⟩) (Kd.R_far (p := ⟨gb_3, 0, none⟩) (Kd.R_types HO_4.out BK_3.out (by decide)) (fun _ hk => hk.2) (.int .u8 t_16)) (fun _ hk => hk.2) (.int .u64 t_17)) (fun _ hk => hk.2) (.int .u64 t_18)) (fun _ hk => hk.2) (.int .u64 t_19)) (fun _ hk => hk.2) (.int .u64 t_20)) (fun _ hk => hk.2) (.bool t_21)) (fun _ hk => hk.2) (.slice Ao_3 t_22.length co_3)) (fun _ hk => hk.2) (.int .u64 t_23)) (fun _ hk => hk.2) (.int .u64 t_24)) (fun _ hk => hk.2) (.slice Ao_4 t_25.length co_4)) (fun _ hk => hk.2) (.string t_26)) (fun _ h_ => h_.1))))) (below_size (bl_3 HB GE_1 GE_2 GE_3))); replace HO_2 := a_ (Kd.R_elder' (by refine rq_ ?_; exact (Kd.R_mono (Kd.R_far (p := ⟨gb_3, 10, none⟩) (Kd.R_far (p := ⟨gb_3, 9, none⟩) (Kd.R_far (p := ⟨gb_3, 8, none⟩) (Kd.R_far (p := ⟨gb_3, 7, none⟩) (Kd.R_far (p := ⟨gb_3, 6, none⟩) (Kd.R_far (p := ⟨gb_3, 5, none⟩) (Kd.R_far (p := ⟨gb_3, 4, none⟩) (Kd.R_far (p := ⟨gb_3, 3, none⟩) (Kd.R_far (p := ⟨gb_3, 2, none⟩) (Kd.R_far (p := ⟨gb_3, 1, none⟩) (Kd.R_far (p := ⟨gb_3, 0, none⟩) (Kd.R_types HO_2.out BK_3.out (by decide)) (fun _ hk => hk.2) (.int .u8 t_16)) (fun _ hk => hk.2) (.int .u64 t_17)) (fun _ hk => hk.2) (.int .u64 t_18)) (fun _ hk => hk.2) (.int .u64 t_19)) (fun _ hk => hk.2) (.int .u64 t_20)) (fun _ hk => hk.2) (.bool t_21)) (fun _ hk => hk.2) (.slice Ao_3 t_22.length co_3)) (fun _ hk => hk.2) (.int .u64 t_23)) (fun _ hk => hk.2) (.int .u64 t_24)) (fun _ hk => hk.2) (.slice Ao_4 t_25.length co_4)) (fun _ hk => hk.2) (.string t_26)) (fun _ h_ => h_.1))) (Kd.R_base ho_2) hb); replace HO_4 := a_ (Kd.R_elder' (by refine rq_ ?_; exact (Kd.R_mono (Kd.R_far (p := ⟨gb_3, 10, none⟩) (Kd.R_far (p := ⟨gb_3, 9, none⟩) (Kd.R_far (p := ⟨gb_3, 8, none⟩) (Kd.R_far (p := ⟨gb_3, 7, none⟩) (Kd.R_far (p := ⟨gb_3, 6, none⟩) (Kd.R_far (p := ⟨gb_3, 5, none⟩) (Kd.R_far (p := ⟨gb_3, 4, none⟩) (Kd.R_far (p := ⟨gb_3, 3, none⟩) (Kd.R_far (p := ⟨gb_3, 2, none⟩) (Kd.R_far (p := ⟨gb_3, 1, none⟩) (Kd.R_far (p := ⟨gb_3, 0, none⟩) (Kd.R_types HO_4.out BK_3.out (by decide)) (fun _ hk => hk.2) (.int .u8 t_16)) (fun _ hk => hk.2) (.int .u64 t_17)) (fun _ hk => hk.2) (.int .u64 t_18)) (fun _ hk => hk.2) (.int .u64 t_19)) (fun _ hk => hk.2) (.int .u64 t_20)) (fun _ hk => hk.2) (.bool t_21)) (fun _ hk => hk.2) (.slice Ao_3 t_22.length co_3)) (fun _ hk => hk.2) (.int .u64 t_23)) (fun _ hk => hk.2) (.int .u64 t_24)) (fun _ hk => hk.2) (.slice Ao_4 t_25.length co_4)) (fun _ hk => hk.2) (.string t_26)) (fun _ h_ => h_.1))) (Kd.R_base ho_2) hb); replace BK_1 := a_ (blk_below (g := gb_1) (o := .cells #[.int .u8 a0_0, .int .u64 a0_1, .int .u64 a0_2, .int .u64 a0_3, .int .u64 a0_4, .bool a0_5, .slice A0_6 l0_6.length c0_6, .int .u64 a0_7, .int .u64 a0_8, .slice A0_9 l0_9.length c0_9, .string a0_10] 37 (0, 0)) (bp_1 BK_1 NB_3) hb); replace BK_2 := a_ (blk_below (g := gb_2) (o := .cells #[.int .u8 t_4, .int .u64 t_5, .int .u64 t_6, .int .u64 t_7, .int .u64 t_8, .bool t_9, .slice Ao_1 t_10.length co_1, .int .u64 t_11, .int .u64 t_12, .slice Ao_2 t_13.length co_2, .string t_14] 37 (0, 0)) (bp_1 BK_2 NB_5) hb); replace BK_3 := a_ (blk_below (g := gb_3) (o := .cells #[.int .u8 t_16, .int .u64 t_17, .int .u64 t_18, .int .u64 t_19, .int .u64 t_20, .bool t_21, .slice Ao_3 t_22.length co_3, .int .u64 t_23, .int .u64 t_24, .slice Ao_4 t_25.length co_4, .string t_26] 37 (0, 0)) (bp_0 BK_3) hb); replace HB := hB_ (bl_3 HB GE_1 GE_2 GE_3) hb; (try clear hb); (try clear ho_1); (try clear ho_2)) | ((with_reducible refine gd_ 11 ?_); refine bx_ 11 #[.int .u8 0, .int .u64 0, .int .u64 0, .int .u64 0, .int .u64 0, .bool false, .slice none 0 0, .int .u64 0, .int .u64 0, .slice none 0 0, .string (⟨#[]⟩ : ByteArray)] 37 ?_; intro gb_4 hg w_9 hbox hb; replace HO_1 := a_ (Kd.S_below (by (with_reducible repeat (first | apply Kd.S_alloc | apply Kd.S_drewN | apply Kd.S_drew)); exact HO_1.out) hb); replace HO_2 := a_ (Kd.R_below (by refine rq_ ?_; exact HO_2.out) hb); replace HO_3 := a_ (Kd.S_below (by (with_reducible repeat (first | apply Kd.S_alloc | apply Kd.S_drewN | apply Kd.S_drew)); exact HO_3.out) hb); replace HO_4 := a_ (Kd.R_below (by refine rq_ ?_; exact HO_4.out) hb); replace HO_5 := a_ (Kd.S_below (by (with_reducible repeat (first | apply Kd.S_alloc | apply Kd.S_drewN | apply Kd.S_drew)); exact HO_5.out) hb); replace HO_6 := a_ (Kd.R_below (by refine rq_ ?_; exact HO_6.out) hb); have BK_4 := a_ (hbox); have GE_4 := a_ (bs_3 hg HB GE_1 GE_2 GE_3); replace HB := hB_ (bl_3 HB GE_1 GE_2 GE_3) hb; have NB_7 := nB_ hg BK_1; have NB_8 := nC_ hg BK_1; replace BK_1 := bB_ BK_1 hb; have NB_9 := nB_ hg BK_2; have NB_10 := nC_ hg BK_2; replace BK_2 := bB_ BK_2 hb; have NB_11 := nB_ hg BK_3; have NB_12 := nC_ hg BK_3; replace BK_3 := bB_ BK_3 hb; clear hb hbox hg; have hnb_4 := NB_8.out; have hnc_4 := NB_7.out; have hnb_5 := NB_10.out; have hnc_5 := NB_9.out; have hnb_6 := NB_12.out; have hnc_6 := NB_11.out; obtain ⟨hcz_34, hcz_35, hcz_36, hcz_37, hcz_38, hcz_39, hcz_40, hcz_41, hcz_42, hcz_43, hcz_44, hfz_34, hfz_35, hfz_36, hfz_37, hfz_38, hfz_39, hfz_40, hfz_41, hfz_42, hfz_43, hfz_44⟩ := c11_ BK_4; obtain ⟨Ao_5, co_5, eo_5⟩ := Kd.S_slice HO_5.out; subst eo_5; obtain ⟨Ao_6, co_6, eo_6⟩ := Kd.R_slice HO_6.out; subst eo_6; obtain ⟨hcz_45, hcz_46, hcz_47, hcz_48, hcz_49, hcz_50, hcz_51, hcz_52, hcz_53, hcz_54, hcz_55, hfz_45, hfz_46, hfz_47, hfz_48, hfz_49, hfz_50, hfz_51, hfz_52, hfz_53, hfz_54, hfz_55⟩ := c11_ BK_1; obtain ⟨hcz_56, hcz_57, hcz_58, hcz_59, hcz_60, hcz_61, hcz_62, hcz_63, hcz_64, hcz_65, hcz_66, hfz_56, hfz_57, hfz_58, hfz_59, hfz_60, hfz_61, hfz_62, hfz_63, hfz_64, hfz_65, hfz_66⟩ := c11_ BK_2) | (go_at_call 18; (with_reducible refine (gafferref13_Same.calls k a0_0 a0_1 a0_2 a0_3 a0_4 a0_5 _ _ l0_6 a0_7 a0_8 _ _ l0_9 a0_10 t_4 t_5 t_6 t_7 t_8 t_9 _ _ t_10 t_11 t_12 _ _ t_13 t_14 _ _ ?side1 ?side2 ?side3 ?side4 ?side5 ?side6 ?side7 ?side8 A_12.out).mono ?_); (case side1 => exact Kd.C_below HR_1.out (bl_4 HB GE_1 GE_2 GE_3 GE_4)); (case side2 => exact HC_1.out); (case side3 => exact Kd.C_below HR_2.out (bl_4 HB GE_1 GE_2 GE_3 GE_4)); (case side4 => exact HC_2.out); (case side5 => refine (Kd.S_reads' (e := 67) (base := w.heap.size) (ok := fun k_ => ((((some k_ ≠ (.slice Ao_2 t_13.length co_2 : Value).ownBlock ∧ some k_ ≠ (.slice Ao_3 t_22.length co_3 : Value).ownBlock) ∧ some k_ ≠ (.slice Ao_4 t_25.length co_4 : Value).ownBlock) ∧ some k_ ≠ (.slice Ao_5 t_34.length co_5 : Value).ownBlock) ∧ some k_ ≠ (.slice Ao_6 t_37.length co_6 : Value).ownBlock)) (n := t_10.length) (c := co_1) ?_).2.2; exact (by (with_reducible repeat (first | apply Kd.S_alloc | apply Kd.S_drewN | apply Kd.S_drew)); exact (Kd.S_mono (Kd.S_far (p := ⟨gb_4, 10, none⟩) (Kd.S_far (p := ⟨gb_4, 9, none⟩) (Kd.S_far (p := ⟨gb_4, 8, none⟩) (Kd.S_far (p := ⟨gb_4, 7, none⟩) (Kd.S_far (p := ⟨gb_4, 6, none⟩) (Kd.S_far (p := ⟨gb_4, 5, none⟩) (Kd.S_far (p := ⟨gb_4, 4, none⟩) (Kd.S_far (p := ⟨gb_4, 3, none⟩) (Kd.S_far (p := ⟨gb_4, 2, none⟩) (Kd.S_far (p := ⟨gb_4, 1, none⟩) (Kd.S_far (p := ⟨gb_4, 0, none⟩) (Kd.S_types HO_1.out BK_4.out (by decide)) (fun _ hk => hk.2) (.int .u8 t_28)) (fun _ hk => hk.2) (.int .u64 t_29)) (fun _ hk => hk.2) (.int .u64 t_30)) (fun _ hk => hk.2) (.int .u64 t_31)) (fun _ hk => hk.2) (.int .u64 t_32)) (fun _ hk => hk.2) (.bool t_33)) (fun _ hk => hk.2) (.slice Ao_5 t_34.length co_5)) (fun _ hk => hk.2) (.int .u64 t_35)) (fun _ hk => hk.2) (.int .u64 t_36)) (fun _ hk => hk.2) (.slice Ao_6 t_37.length co_6)) (fun _ hk => hk.2) (.string t_38)) (fun _ h_ => h_.1)))); (case side6 => exact (Kd.S_reads' HO_1.out).2.1); (case side7 => refine (Kd.R_reads' (e := 3) (base := w.heap.size) (ok := fun k_ => ((True ∧ some k_ ≠ (.slice Ao_4 t_25.length co_4 : Value).ownBlock) ∧ some k_ ≠ (.slice Ao_6 t_37.length co_6 : Value).ownBlock)) (n := t_13.length) (c := co_2) ?_).2.2; exact (by refine rq_ ?_; exact (Kd.R_mono (Kd.R_far (p := ⟨gb_4, 10, none⟩) (Kd.R_far (p := ⟨gb_4, 9, none⟩) (Kd.R_far (p := ⟨gb_4, 8, none⟩) (Kd.R_far (p := ⟨gb_4, 7, none⟩) (Kd.R_far (p := ⟨gb_4, 6, none⟩) (Kd.R_far (p := ⟨gb_4, 5, none⟩) (Kd.R_far (p := ⟨gb_4, 4, none⟩) (Kd.R_far (p := ⟨gb_4, 3, none⟩) (Kd.R_far (p := ⟨gb_4, 2, none⟩) (Kd.R_far (p := ⟨gb_4, 1, none⟩) (Kd.R_far (p := ⟨gb_4, 0, none⟩) (Kd.R_types HO_2.out BK_4.out (by decide)) (fun _ hk => hk.2) (.int .u8 t_28)) (fun _ hk => hk.2) (.int .u64 t_29)) (fun _ hk => hk.2) (.int .u64 t_30)) (fun _ hk => hk.2) (.int .u64 t_31)) (fun _ hk => hk.2) (.int .u64 t_32)) (fun _ hk => hk.2) (.bool t_33)) (fun _ hk => hk.2) (.slice Ao_5 t_34.length co_5)) (fun _ hk => hk.2) (.int .u64 t_35)) (fun _ hk => hk.2) (.int .u64 t_36)) (fun _ hk => hk.2) (.slice Ao_6 t_37.length co_6)) (fun _ hk => hk.2) (.string t_38)) (fun _ h_ => h_.1)))); (case side8 => exact (Kd.R_reads' HO_2.out).2.1); rintro e w_10 ⟨rfl, hb⟩; replace HO_1 := a_ (Kd.S_below (by (with_reducible repeat (first | apply Kd.S_alloc | apply Kd.S_drewN | apply Kd.S_drew)); exact (Kd.S_mono (Kd.S_far (p := ⟨gb_4, 10, none⟩) (Kd.S_far (p := ⟨gb_4, 9, none⟩) (Kd.S_far (p := ⟨gb_4, 8, none⟩) (Kd.S_far (p := ⟨gb_4, 7, none⟩) (Kd.S_far (p := ⟨gb_4, 6, none⟩) (Kd.S_far (p := ⟨gb_4, 5, none⟩) (Kd.S_far (p := ⟨gb_4, 4, none⟩) (Kd.S_far (p := ⟨gb_4, 3, none⟩) (Kd.S_far (p := ⟨gb_4, 2, none⟩) (Kd.S_far (p := ⟨gb_4, 1, none⟩) (Kd.S_far (p := ⟨gb_4, 0, none⟩) (Kd.S_types HO_1.out BK_4.out (by decide)) (fun _ hk => hk.2) (.int .u8 t_28)) (fun _ hk => hk.2) (.int .u64 t_29)) (fun _ hk => hk.2) (.int .u64 t_30)) (fun _ hk => hk.2) (.int .u64 t_31)) (fun _ hk => hk.2) (.int .u64 t_32)) (fun _ hk => hk.2) (.bool t_33)) (fun _ hk => hk.2) (.slice Ao_5 t_34.length co_5)) (fun _ hk => hk.2) (.int .u64 t_35)) (fun _ hk => hk.2) (.int .u64 t_36)) (fun _ hk => hk.2) (.slice Ao_6 t_37.length co_6)) (fun _ hk => hk.2) (.string t_38)) (fun _ h_ => h_.1))) hb); replace HO_2 := a_ (Kd.R_below (by refine rq_ ?_; exact (Kd.R_mono (Kd.R_far (p := ⟨gb_4, 10, none⟩) (Kd.R_far (p := ⟨gb_4, 9, none⟩) (Kd.R_far (p := ⟨gb_4, 8, none⟩) (Kd.R_far (p := ⟨gb_4, 7, none⟩) (Kd.R_far (p := ⟨gb_4, 6, none⟩) (Kd.R_far (p := ⟨gb_4, 5, none⟩) (Kd.R_far (p := ⟨gb_4, 4, none⟩) (Kd.R_far (p := ⟨gb_4, 3, none⟩) (Kd.R_far (p := ⟨gb_4, 2, none⟩) (Kd.R_far (p := ⟨gb_4, 1, none⟩) (Kd.R_far (p := ⟨gb_4, 0, none⟩) (Kd.R_types HO_2.out BK_4.out (by decide)) (fun _ hk => hk.2) (.int .u8 t_28)) (fun _ hk => hk.2) (.int .u64 t_29)) (fun _ hk => hk.2) (.int .u64 t_30)) (fun _ hk => hk.2) (.int .u64 t_31)) (fun _ hk => hk.2) (.int .u64 t_32)) (fun _ hk => hk.2) (.bool t_33)) (fun _ hk => hk.2) (.slice Ao_5 t_34.length co_5)) (fun _ hk => hk.2) (.int .u64 t_35)) (fun _ hk => hk.2) (.int .u64 t_36)) (fun _ hk => hk.2) (.slice Ao_6 t_37.length co_6)) (fun _ hk => hk.2) (.string t_38)) (fun _ h_ => h_.1))) hb); replace HO_3 := a_ (Kd.S_below (by (with_reducible repeat (first | apply Kd.S_alloc | apply Kd.S_drewN | apply Kd.S_drew)); exact (Kd.S_mono (Kd.S_far (p := ⟨gb_4, 10, none⟩) (Kd.S_far (p := ⟨gb_4, 9, none⟩) (Kd.S_far (p := ⟨gb_4, 8, none⟩) (Kd.S_far (p := ⟨gb_4, 7, none⟩) (Kd.S_far (p := ⟨gb_4, 6, none⟩) (Kd.S_far (p := ⟨gb_4, 5, none⟩) (Kd.S_far (p := ⟨gb_4, 4, none⟩) (Kd.S_far (p := ⟨gb_4, 3, none⟩) (Kd.S_far (p := ⟨gb_4, 2, none⟩) (Kd.S_far (p := ⟨gb_4, 1, none⟩) (Kd.S_far (p := ⟨gb_4, 0, none⟩) (Kd.S_types HO_3.out BK_4.out (by decide)) (fun _ hk => hk.2) (.int .u8 t_28)) (fun _ hk => hk.2) (.int .u64 t_29)) (fun _ hk => hk.2) (.int .u64 t_30)) (fun _ hk => hk.2) (.int .u64 t_31)) (fun _ hk => hk.2) (.int .u64 t_32)) (fun _ hk => hk.2) (.bool t_33)) (fun _ hk => hk.2) (.slice Ao_5 t_34.length co_5)) (fun _ hk => hk.2) (.int .u64 t_35)) (fun _ hk => hk.2) (.int .u64 t_36)) (fun _ hk => hk.2) (.slice Ao_6 t_37.length co_6)) (fun _ hk => hk.2) (.string t_38)) (fun _ h_ => h_.1))) hb); replace HO_4 := a_ (Kd.R_below (by refine rq_ ?_; exact (Kd.R_mono (Kd.R_far (p := ⟨gb_4, 10, none⟩) (Kd.R_far (p := ⟨gb_4, 9, none⟩) (Kd.R_far (p := ⟨gb_4, 8, none⟩) (Kd.R_far (p := ⟨gb_4, 7, none⟩) (Kd.R_far (p := ⟨gb_4, 6, none⟩) (Kd.R_far (p := ⟨gb_4, 5, none⟩) (Kd.R_far (p := ⟨gb_4, 4, none⟩) (Kd.R_far (p := ⟨gb_4, 3, none⟩) (Kd.R_far (p := ⟨gb_4, 2, none⟩) (Kd.R_far (p := ⟨gb_4, 1, none⟩) (Kd.R_far (p := ⟨gb_4, 0, none⟩) (Kd.R_types HO_4.out BK_4.out (by decide)) (fun _ hk => hk.2) (.int .u8 t_28)) (fun _ hk => hk.2) (.int .u64 t_29)) (fun _ hk => hk.2) (.int .u64 t_30)) (fun _ hk => hk.2) (.int .u64 t_31)) (fun _ hk => hk.2) (.int .u64 t_32)) (fun _ hk => hk.2) (.bool t_33)) (fun _ hk => hk.2) (.slice Ao_5 t_34.length co_5)) (fun _ hk => hk.2) (.int .u64 t_35)) (fun _ hk => hk.2) (.int .u64 t_36)) (fun _ hk => hk.2) (.slice Ao_6 t_37.length co_6)) (fun _ hk => hk.2) (.string t_38)) (fun _ h_ => h_.1))) hb); replace HO_5 := a_ (Kd.S_below (by (with_reducible repeat (first | apply Kd.S_alloc | apply Kd.S_drewN | apply Kd.S_drew)); exact (Kd.S_mono (Kd.S_far (p := ⟨gb_4, 10, none⟩) (Kd.S_far (p := ⟨gb_4, 9, none⟩) (Kd.S_far (p := ⟨gb_4, 8, none⟩) (Kd.S_far (p := ⟨gb_4, 7, none⟩) (Kd.S_far (p := ⟨gb_4, 6, none⟩) (Kd.S_far (p := ⟨gb_4, 5, none⟩) (Kd.S_far (p := ⟨gb_4, 4, none⟩) (Kd.S_far (p := ⟨gb_4, 3, none⟩) (Kd.S_far (p := ⟨gb_4, 2, none⟩) (Kd.S_far (p := ⟨gb_4, 1, none⟩) (Kd.S_far (p := ⟨gb_4, 0, none⟩) (Kd.S_types HO_5.out BK_4.out (by decide)) (fun _ hk => hk.2) (.int .u8 t_28)) (fun _ hk => hk.2) (.int .u64 t_29)) (fun _ hk => hk.2) (.int .u64 t_30)) (fun _ hk => hk.2) (.int .u64 t_31)) (fun _ hk => hk.2) (.int .u64 t_32)) (fun _ hk => hk.2) (.bool t_33)) (fun _ hk => hk.2) (.slice Ao_5 t_34.length co_5)) (fun _ hk => hk.2) (.int .u64 t_35)) (fun _ hk => hk.2) (.int .u64 t_36)) (fun _ hk => hk.2) (.slice Ao_6 t_37.length co_6)) (fun _ hk => hk.2) (.string t_38)) (fun _ h_ => h_.1))) hb); replace HO_6 := a_ (Kd.R_below (by refine rq_ ?_; exact (Kd.R_mono (Kd.R_far (p := ⟨gb_4, 10, none⟩) (Kd.R_far (p := ⟨gb_4, 9, none⟩) (Kd.R_far (p := ⟨gb_4, 8, none⟩) (Kd.R_far (p := ⟨gb_4, 7, none⟩) (Kd.R_far (p := ⟨gb_4, 6, none⟩) (Kd.R_far (p := ⟨gb_4, 5, none⟩) (Kd.R_far (p := ⟨gb_4, 4, none⟩) (Kd.R_far (p := ⟨gb_4, 3, none⟩) (Kd.R_far (p := ⟨gb_4, 2, none⟩) (Kd.R_far (p := ⟨gb_4, 1, none⟩) (Kd.R_far (p := ⟨gb_4, 0, none⟩) (Kd.R_types HO_6.out BK_4.out (by decide)) (fun _ hk => hk.2) (.int .u8 t_28)) (fun _ hk => hk.2) (.int .u64 t_29)) (fun _ hk => hk.2) (.int .u64 t_30)) (fun _ hk => hk.2) (.int .u64 t_31)) (fun _ hk => hk.2) (.int .u64 t_32)) (fun _ hk => hk.2) (.bool t_33)) (fun _ hk => hk.2) (.slice Ao_5 t_34.length co_5)) (fun _ hk => hk.2) (.int .u64 t_35)) (fun _ hk => hk.2) (.int .u64 t_36)) (fun _ hk => hk.2) (.slice Ao_6 t_37.length co_6)) (fun _ hk => hk.2) (.string t_38)) (fun _ h_ => h_.1))) hb); replace BK_1 := a_ (blk_below (g := gb_1) (o := .cells #[.int .u8 a0_0, .int .u64 a0_1, .int .u64 a0_2, .int .u64 a0_3, .int .u64 a0_4, .bool a0_5, .slice A0_6 l0_6.length c0_6, .int .u64 a0_7, .int .u64 a0_8, .slice A0_9 l0_9.length c0_9, .string a0_10] 37 (0, 0)) (bp_1 BK_1 NB_7) hb); replace BK_2 := a_ (blk_below (g := gb_2) (o := .cells #[.int .u8 t_4, .int .u64 t_5, .int .u64 t_6, .int .u64 t_7, .int .u64 t_8, .bool t_9, .slice Ao_1 t_10.length co_1, .int .u64 t_11, .int .u64 t_12, .slice Ao_2 t_13.length co_2, .string t_14] 37 (0, 0)) (bp_1 BK_2 NB_9) hb); replace BK_3 := a_ (blk_below (g := gb_3) (o := .cells #[.int .u8 t_16, .int .u64 t_17, .int .u64 t_18, .int .u64 t_19, .int .u64 t_20, .bool t_21, .slice Ao_3 t_22.length co_3, .int .u64 t_23, .int .u64 t_24, .slice Ao_4 t_25.length co_4, .string t_26] 37 (0, 0)) (bp_1 BK_3 NB_11) hb); replace BK_4 := a_ (blk_below (g := gb_4) (o := .cells #[.int .u8 t_28, .int .u64 t_29, .int .u64 t_30, .int .u64 t_31, .int .u64 t_32, .bool t_33, .slice Ao_5 t_34.length co_5, .int .u64 t_35, .int .u64 t_36, .slice Ao_6 t_37.length co_6, .string t_38] 37 (0, 0)) (bp_0 BK_4) hb); replace HB := hB_ (bl_4 HB GE_1 GE_2 GE_3 GE_4) hb; (try clear hb)))
      go_meet
      case rel => exact ⟨_, H', ⟨by first | omega | exact Nat.le_refl _⟩, ⟨bk_ BK_1⟩, ⟨bl_4 HB GE_1 GE_2 GE_3 GE_4⟩⟩)
 case rest =>
  clear HC_3
  try clear c1
  try clear c2
  try clear p2
  try clear c3
  try clear c_1
  try clear c5
  try clear p6
  try clear c_2
  try clear c11b0
  try clear c11b1
  try clear c13
  try clear c13b0
  try clear c13b1
  try clear c13b2
  try clear c15
  try clear c16
  try clear c16b0
  try clear c16b1
  try clear c17
  try clear c17b0
  try clear c17b1
  try clear c19
  try clear c19b0
  try clear c19b1
  try clear c21
  try clear c22
  try clear c22b0
  try clear c22b1
  try clear c23
  try clear c23b0
  try clear c23b1
  try clear c26
  try clear c32
  try clear c33
  try clear c39
  try clear c40
  try clear c41
  obtain ⟨kq, HA, HJ_1, BK_1, HB⟩ := hcut
  cases kq with
  | zero => exact absurd HA.out (by simp [gafferlaw13_MsgBack.j0])
  | succ kj5 =>
   have H := HA.out
   clear HA
   simp only [gafferlaw13_MsgBack.j0] at H
   obtain ⟨⟨t_4, t_5, t_6, t_7, t_8, t_9, t_10, t_11, t_12, t_13, t_14, t_15⟩, A_5, H⟩ := Option.bind_eq_some_iff.mp H
   try dsimp only at H
   have A_6 := a_ A_5
   clear A_5
   by_cases c_3 : t_15 = 0
   rotate_left
   ·rw [if_neg c_3] at H
    have c_4 : (t_15 == 0) = false := beq_eq_false_iff_ne.mpr c_3
    have c_5 : (t_15 != 0) = true := bne_iff_ne.mpr c_3
    by_cases c_6 : t_15 = 4
    rotate_left
    ·rw [if_neg c_6] at H
     have c_7 : (t_15 == 4) = false := beq_eq_false_iff_ne.mpr c_6
     have c_8 : (t_15 != 4) = true := bne_iff_ne.mpr c_6
     exact absurd (H.trans (congrArg some hr)) (by simp)
    rw [if_pos c_6] at H
    have c_7 : (t_15 == 4) = true := beq_iff_eq.mpr c_6
    have c_8 : (t_15 != 4) = false := bne_eq_false_iff_eq.mpr c_6
    clear c_6
    obtain ⟨t_16, A_7, H⟩ := Option.bind_eq_some_iff.mp H
    try dsimp only at H
    have A_8 := a_ A_7
    clear A_7
    obtain rfl := Option.some.inj H
    go_wp2_with (first | ((with_reducible refine gk_ 15 ?_); refine gl_ (some 63) Try.func15 #[.string a1] ?_; (with_reducible refine (msg_Decode.calls kj5 a1 t_4 t_5 t_6 t_7 t_8 t_9 t_10 t_11 t_12 t_13 t_14 t_15 _ A_6.out).mono ?_); rintro e w_4 ⟨v_1, v_2, rfl, ho_1, ho_2, hb⟩; refine ⟨_, rfl, ?_⟩; have HO_1 := a_ (Kd.S_lower ho_1 (below_size (bl_1 HB GE_1))); have HO_2 := a_ (Kd.R_lower ho_2 (below_size (bl_1 HB GE_1))); replace BK_1 := bB_ BK_1 hb; replace HB := hB_ (bl_1 HB GE_1) hb; (try clear hb); (try clear ho_1); (try clear ho_2)) | ((with_reducible refine gd_ 13 ?_); refine bx_ 13 #[.int .u8 0, .int .u64 0, .int .u64 0, .int .u64 0, .int .u64 0, .bool false, .slice none 0 0, .int .u64 0, .int .u64 0, .slice none 0 0, .string (⟨#[]⟩ : ByteArray)] 37 ?_; intro gb_2 hg w_5 hbox hb; replace HO_1 := a_ (Kd.S_below (by (with_reducible repeat (first | apply Kd.S_alloc | apply Kd.S_drewN | apply Kd.S_drew)); exact HO_1.out) hb); replace HO_2 := a_ (Kd.R_below (by refine rq_ ?_; exact HO_2.out) hb); have BK_2 := a_ (hbox); have GE_2 := a_ (bs_1 hg HB GE_1); replace HB := hB_ (bl_1 HB GE_1) hb; have NB_1 := nB_ hg BK_1; have NB_2 := nC_ hg BK_1; replace BK_1 := bB_ BK_1 hb; clear hb hbox hg; have hnb_1 := NB_2.out; have hnc_1 := NB_1.out; obtain ⟨hcz_12, hcz_13, hcz_14, hcz_15, hcz_16, hcz_17, hcz_18, hcz_19, hcz_20, hcz_21, hcz_22, hfz_12, hfz_13, hfz_14, hfz_15, hfz_16, hfz_17, hfz_18, hfz_19, hfz_20, hfz_21, hfz_22⟩ := c11_ BK_2; obtain ⟨Ao_1, co_1, eo_1⟩ := Kd.S_slice HO_1.out; subst eo_1; obtain ⟨Ao_2, co_2, eo_2⟩ := Kd.R_slice HO_2.out; subst eo_2) | (go_at_call 18; (refine (gafferref13_Same.calls kj5 t_4 t_5 t_6 t_7 t_8 t_9 _ _ t_10 t_11 t_12 _ _ t_13 t_14 0 0 0 0 0 false _ _ ([] : List (S67)) 0 0 _ _ ([] : List Int) (⟨#[]⟩ : ByteArray) t_16 _ ?side1 ?side2 ?side3 ?side4 ?side5 ?side6 ?side7 ?side8 A_8.out).mono ?_); (case side1 => refine (Kd.S_reads' (e := 67) (base := w.heap.size) (ok := fun k_ => some k_ ≠ (.slice Ao_2 t_13.length co_2 : Value).ownBlock) (n := t_10.length) (c := co_1) ?_).2.2; exact (by (with_reducible repeat (first | apply Kd.S_alloc | apply Kd.S_drewN | apply Kd.S_drew)); exact (Kd.S_mono (Kd.S_far (p := ⟨gb_2, 10, none⟩) (Kd.S_far (p := ⟨gb_2, 9, none⟩) (Kd.S_far (p := ⟨gb_2, 8, none⟩) (Kd.S_far (p := ⟨gb_2, 7, none⟩) (Kd.S_far (p := ⟨gb_2, 6, none⟩) (Kd.S_far (p := ⟨gb_2, 5, none⟩) (Kd.S_far (p := ⟨gb_2, 4, none⟩) (Kd.S_far (p := ⟨gb_2, 3, none⟩) (Kd.S_far (p := ⟨gb_2, 2, none⟩) (Kd.S_far (p := ⟨gb_2, 1, none⟩) (Kd.S_far (p := ⟨gb_2, 0, none⟩) (Kd.S_types HO_1.out BK_2.out (by decide)) (fun _ hk => hk.2) (.int .u8 t_4)) (fun _ hk => hk.2) (.int .u64 t_5)) (fun _ hk => hk.2) (.int .u64 t_6)) (fun _ hk => hk.2) (.int .u64 t_7)) (fun _ hk => hk.2) (.int .u64 t_8)) (fun _ hk => hk.2) (.bool t_9)) (fun _ hk => hk.2) (.slice Ao_1 t_10.length co_1)) (fun _ hk => hk.2) (.int .u64 t_11)) (fun _ hk => hk.2) (.int .u64 t_12)) (fun _ hk => hk.2) (.slice Ao_2 t_13.length co_2)) (fun _ hk => hk.2) (.string t_14)) (fun _ h_ => h_.1)))); (case side2 => exact (Kd.S_reads' HO_1.out).2.1); (case side3 => refine (Kd.R_reads' (e := 3) (base := w.heap.size) (ok := fun k_ => True) (n := t_13.length) (c := co_2) ?_).2.2; exact (by refine rq_ ?_; exact (Kd.R_mono (Kd.R_far (p := ⟨gb_2, 10, none⟩) (Kd.R_far (p := ⟨gb_2, 9, none⟩) (Kd.R_far (p := ⟨gb_2, 8, none⟩) (Kd.R_far (p := ⟨gb_2, 7, none⟩) (Kd.R_far (p := ⟨gb_2, 6, none⟩) (Kd.R_far (p := ⟨gb_2, 5, none⟩) (Kd.R_far (p := ⟨gb_2, 4, none⟩) (Kd.R_far (p := ⟨gb_2, 3, none⟩) (Kd.R_far (p := ⟨gb_2, 2, none⟩) (Kd.R_far (p := ⟨gb_2, 1, none⟩) (Kd.R_far (p := ⟨gb_2, 0, none⟩) (Kd.R_types HO_2.out BK_2.out (by decide)) (fun _ hk => hk.2) (.int .u8 t_4)) (fun _ hk => hk.2) (.int .u64 t_5)) (fun _ hk => hk.2) (.int .u64 t_6)) (fun _ hk => hk.2) (.int .u64 t_7)) (fun _ hk => hk.2) (.int .u64 t_8)) (fun _ hk => hk.2) (.bool t_9)) (fun _ hk => hk.2) (.slice Ao_1 t_10.length co_1)) (fun _ hk => hk.2) (.int .u64 t_11)) (fun _ hk => hk.2) (.int .u64 t_12)) (fun _ hk => hk.2) (.slice Ao_2 t_13.length co_2)) (fun _ hk => hk.2) (.string t_14)) (fun _ h_ => h_.1)))); (case side4 => exact (Kd.R_reads' HO_2.out).2.1); (case side5 => exact Kd.C_nil _ _); (case side6 => exact Nat.le_refl _); (case side7 => exact Kd.C_nil _ _); (case side8 => exact Nat.le_refl _); rintro e w_6 ⟨rfl, hb⟩; (try clear A_8); replace HO_1 := a_ (Kd.S_below (by (with_reducible repeat (first | apply Kd.S_alloc | apply Kd.S_drewN | apply Kd.S_drew)); exact (Kd.S_mono (Kd.S_far (p := ⟨gb_2, 10, none⟩) (Kd.S_far (p := ⟨gb_2, 9, none⟩) (Kd.S_far (p := ⟨gb_2, 8, none⟩) (Kd.S_far (p := ⟨gb_2, 7, none⟩) (Kd.S_far (p := ⟨gb_2, 6, none⟩) (Kd.S_far (p := ⟨gb_2, 5, none⟩) (Kd.S_far (p := ⟨gb_2, 4, none⟩) (Kd.S_far (p := ⟨gb_2, 3, none⟩) (Kd.S_far (p := ⟨gb_2, 2, none⟩) (Kd.S_far (p := ⟨gb_2, 1, none⟩) (Kd.S_far (p := ⟨gb_2, 0, none⟩) (Kd.S_types HO_1.out BK_2.out (by decide)) (fun _ hk => hk.2) (.int .u8 t_4)) (fun _ hk => hk.2) (.int .u64 t_5)) (fun _ hk => hk.2) (.int .u64 t_6)) (fun _ hk => hk.2) (.int .u64 t_7)) (fun _ hk => hk.2) (.int .u64 t_8)) (fun _ hk => hk.2) (.bool t_9)) (fun _ hk => hk.2) (.slice Ao_1 t_10.length co_1)) (fun _ hk => hk.2) (.int .u64 t_11)) (fun _ hk => hk.2) (.int .u64 t_12)) (fun _ hk => hk.2) (.slice Ao_2 t_13.length co_2)) (fun _ hk => hk.2) (.string t_14)) (fun _ h_ => h_.1))) hb); replace HO_2 := a_ (Kd.R_below (by refine rq_ ?_; exact (Kd.R_mono (Kd.R_far (p := ⟨gb_2, 10, none⟩) (Kd.R_far (p := ⟨gb_2, 9, none⟩) (Kd.R_far (p := ⟨gb_2, 8, none⟩) (Kd.R_far (p := ⟨gb_2, 7, none⟩) (Kd.R_far (p := ⟨gb_2, 6, none⟩) (Kd.R_far (p := ⟨gb_2, 5, none⟩) (Kd.R_far (p := ⟨gb_2, 4, none⟩) (Kd.R_far (p := ⟨gb_2, 3, none⟩) (Kd.R_far (p := ⟨gb_2, 2, none⟩) (Kd.R_far (p := ⟨gb_2, 1, none⟩) (Kd.R_far (p := ⟨gb_2, 0, none⟩) (Kd.R_types HO_2.out BK_2.out (by decide)) (fun _ hk => hk.2) (.int .u8 t_4)) (fun _ hk => hk.2) (.int .u64 t_5)) (fun _ hk => hk.2) (.int .u64 t_6)) (fun _ hk => hk.2) (.int .u64 t_7)) (fun _ hk => hk.2) (.int .u64 t_8)) (fun _ hk => hk.2) (.bool t_9)) (fun _ hk => hk.2) (.slice Ao_1 t_10.length co_1)) (fun _ hk => hk.2) (.int .u64 t_11)) (fun _ hk => hk.2) (.int .u64 t_12)) (fun _ hk => hk.2) (.slice Ao_2 t_13.length co_2)) (fun _ hk => hk.2) (.string t_14)) (fun _ h_ => h_.1))) hb); replace BK_1 := a_ (blk_below (g := gb_1) (o := .cells #[.int .u8 a0_0, .int .u64 a0_1, .int .u64 a0_2, .int .u64 a0_3, .int .u64 a0_4, .bool a0_5, .slice A0_6 l0_6.length c0_6, .int .u64 a0_7, .int .u64 a0_8, .slice A0_9 l0_9.length c0_9, .string a0_10] 37 (0, 0)) (bp_1 BK_1 NB_1) hb); replace BK_2 := a_ (blk_below (g := gb_2) (o := .cells #[.int .u8 t_4, .int .u64 t_5, .int .u64 t_6, .int .u64 t_7, .int .u64 t_8, .bool t_9, .slice Ao_1 t_10.length co_1, .int .u64 t_11, .int .u64 t_12, .slice Ao_2 t_13.length co_2, .string t_14] 37 (0, 0)) (bp_0 BK_2) hb); replace HB := hB_ (bl_2 HB GE_1 GE_2) hb; (try clear hb)))
    go_ret
    exact ⟨fz_, bl_2 HB GE_1 GE_2⟩
   rw [if_pos c_3] at H
   have c_4 : (t_15 == 0) = true := beq_iff_eq.mpr c_3
   have c_5 : (t_15 != 0) = false := bne_eq_false_iff_eq.mpr c_3
   clear c_3
   obtain ⟨⟨t_17, t_18⟩, A_9, H⟩ := Option.bind_eq_some_iff.mp H
   try dsimp only at H
   have A_3 := a_ A_9
   clear A_9
   by_cases c_9 : t_18 = 0
   rotate_left
   ·rw [if_neg c_9] at H
    have c_10 : (t_18 == 0) = false := beq_eq_false_iff_ne.mpr c_9
    have c_11 : (t_18 != 0) = true := bne_iff_ne.mpr c_9
    exact absurd (H.trans (congrArg some hr)) (by simp)
   rw [if_pos c_9] at H
   have c_10 : (t_18 == 0) = true := beq_iff_eq.mpr c_9
   have c_11 : (t_18 != 0) = false := bne_eq_false_iff_eq.mpr c_9
   clear c_9
   by_cases c_12 : t_17.toList = a1.toList
   rotate_left
   ·rw [if_neg c_12] at H
    have c_13 : (t_17.toList == a1.toList) = false := beq_eq_false_iff_ne.mpr c_12
    have c_14 : (t_17.toList != a1.toList) = true := bne_iff_ne.mpr c_12
    exact absurd (H.trans (congrArg some hr)) (by simp)
   rw [if_pos c_12] at H
   have c_13 : (t_17.toList == a1.toList) = true := beq_iff_eq.mpr c_12
   have c_14 : (t_17.toList != a1.toList) = false := bne_eq_false_iff_eq.mpr c_12
   clear c_12
   obtain ⟨t_19, A_10, H⟩ := Option.bind_eq_some_iff.mp H
   try dsimp only at H
   have A_11 := a_ A_10
   clear A_10
   obtain rfl := Option.some.inj H
   go_wp2_with (first | ((with_reducible refine gk_ 15 ?_); refine gl_ (some 63) Try.func15 #[.string a1] ?_; (with_reducible refine (msg_Decode.calls kj5 a1 t_4 t_5 t_6 t_7 t_8 t_9 t_10 t_11 t_12 t_13 t_14 t_15 _ A_6.out).mono ?_); rintro e w_7 ⟨v_1, v_2, rfl, ho_1, ho_2, hb⟩; refine ⟨_, rfl, ?_⟩; have HO_1 := a_ (Kd.S_lower ho_1 (below_size (bl_1 HB GE_1))); have HO_2 := a_ (Kd.R_lower ho_2 (below_size (bl_1 HB GE_1))); replace BK_1 := bB_ BK_1 hb; replace HB := hB_ (bl_1 HB GE_1) hb; (try clear hb); (try clear ho_1); (try clear ho_2)) | ((with_reducible refine gd_ 13 ?_); refine bx_ 13 #[.int .u8 0, .int .u64 0, .int .u64 0, .int .u64 0, .int .u64 0, .bool false, .slice none 0 0, .int .u64 0, .int .u64 0, .slice none 0 0, .string (⟨#[]⟩ : ByteArray)] 37 ?_; intro gb_2 hg w_8 hbox hb; replace HO_1 := a_ (Kd.S_below (by (with_reducible repeat (first | apply Kd.S_alloc | apply Kd.S_drewN | apply Kd.S_drew)); exact HO_1.out) hb); replace HO_2 := a_ (Kd.R_below (by refine rq_ ?_; exact HO_2.out) hb); have BK_2 := a_ (hbox); have GE_2 := a_ (bs_1 hg HB GE_1); replace HB := hB_ (bl_1 HB GE_1) hb; have NB_1 := nB_ hg BK_1; have NB_2 := nC_ hg BK_1; replace BK_1 := bB_ BK_1 hb; clear hb hbox hg; have hnb_2 := NB_2.out; have hnc_2 := NB_1.out; obtain ⟨hcz_23, hcz_24, hcz_25, hcz_26, hcz_27, hcz_28, hcz_29, hcz_30, hcz_31, hcz_32, hcz_33, hfz_23, hfz_24, hfz_25, hfz_26, hfz_27, hfz_28, hfz_29, hfz_30, hfz_31, hfz_32, hfz_33⟩ := c11_ BK_2; obtain ⟨Ao_3, co_3, eo_3⟩ := Kd.S_slice HO_1.out; subst eo_3; obtain ⟨Ao_4, co_4, eo_4⟩ := Kd.R_slice HO_2.out; subst eo_4) | ((with_reducible refine gk_ 13 ?_); refine gl_ (some 77) Try.func13 #[.agg #[.int .u8 t_4, .int .u64 t_5, .int .u64 t_6, .int .u64 t_7, .int .u64 t_8, .bool t_9, .slice Ao_3 t_10.length co_3, .int .u64 t_11, .int .u64 t_12, .slice Ao_4 t_13.length co_4, .string t_14]] ?_; (with_reducible refine (msg_Encode.calls kj5 t_4 t_5 t_6 t_7 t_8 t_9 _ _ t_10 t_11 t_12 _ _ t_13 t_14 t_17 t_18 _ ?side1 ?side2 ?side3 ?side4 A_3.out).mono ?_); (case side1 => refine (Kd.S_reads' (e := 67) (base := w.heap.size) (ok := fun k_ => some k_ ≠ (.slice Ao_4 t_13.length co_4 : Value).ownBlock) (n := t_10.length) (c := co_3) ?_).2.2; exact (by (with_reducible repeat (first | apply Kd.S_alloc | apply Kd.S_drewN | apply Kd.S_drew)); exact (Kd.S_mono (Kd.S_far (p := ⟨gb_2, 10, none⟩) (Kd.S_far (p := ⟨gb_2, 9, none⟩) (Kd.S_far (p := ⟨gb_2, 8, none⟩) (Kd.S_far (p := ⟨gb_2, 7, none⟩) (Kd.S_far (p := ⟨gb_2, 6, none⟩) (Kd.S_far (p := ⟨gb_2, 5, none⟩) (Kd.S_far (p := ⟨gb_2, 4, none⟩) (Kd.S_far (p := ⟨gb_2, 3, none⟩) (Kd.S_far (p := ⟨gb_2, 2, none⟩) (Kd.S_far (p := ⟨gb_2, 1, none⟩) (Kd.S_far (p := ⟨gb_2, 0, none⟩) (Kd.S_types HO_1.out BK_2.out (by decide)) (fun _ hk => hk.2) (.int .u8 t_4)) (fun _ hk => hk.2) (.int .u64 t_5)) (fun _ hk => hk.2) (.int .u64 t_6)) (fun _ hk => hk.2) (.int .u64 t_7)) (fun _ hk => hk.2) (.int .u64 t_8)) (fun _ hk => hk.2) (.bool t_9)) (fun _ hk => hk.2) (.slice Ao_3 t_10.length co_3)) (fun _ hk => hk.2) (.int .u64 t_11)) (fun _ hk => hk.2) (.int .u64 t_12)) (fun _ hk => hk.2) (.slice Ao_4 t_13.length co_4)) (fun _ hk => hk.2) (.string t_14)) (fun _ h_ => h_.1)))); (case side2 => exact (Kd.S_reads' HO_1.out).2.1); (case side3 => refine (Kd.R_reads' (e := 3) (base := w.heap.size) (ok := fun k_ => True) (n := t_13.length) (c := co_4) ?_).2.2; exact (by refine rq_ ?_; exact (Kd.R_mono (Kd.R_far (p := ⟨gb_2, 10, none⟩) (Kd.R_far (p := ⟨gb_2, 9, none⟩) (Kd.R_far (p := ⟨gb_2, 8, none⟩) (Kd.R_far (p := ⟨gb_2, 7, none⟩) (Kd.R_far (p := ⟨gb_2, 6, none⟩) (Kd.R_far (p := ⟨gb_2, 5, none⟩) (Kd.R_far (p := ⟨gb_2, 4, none⟩) (Kd.R_far (p := ⟨gb_2, 3, none⟩) (Kd.R_far (p := ⟨gb_2, 2, none⟩) (Kd.R_far (p := ⟨gb_2, 1, none⟩) (Kd.R_far (p := ⟨gb_2, 0, none⟩) (Kd.R_types HO_2.out BK_2.out (by decide)) (fun _ hk => hk.2) (.int .u8 t_4)) (fun _ hk => hk.2) (.int .u64 t_5)) (fun _ hk => hk.2) (.int .u64 t_6)) (fun _ hk => hk.2) (.int .u64 t_7)) (fun _ hk => hk.2) (.int .u64 t_8)) (fun _ hk => hk.2) (.bool t_9)) (fun _ hk => hk.2) (.slice Ao_3 t_10.length co_3)) (fun _ hk => hk.2) (.int .u64 t_11)) (fun _ hk => hk.2) (.int .u64 t_12)) (fun _ hk => hk.2) (.slice Ao_4 t_13.length co_4)) (fun _ hk => hk.2) (.string t_14)) (fun _ h_ => h_.1)))); (case side4 => exact (Kd.R_reads' HO_2.out).2.1); rintro e w_9 ⟨rfl, hb⟩; refine ⟨_, rfl, ?_⟩; replace HO_1 := a_ (Kd.S_below (by (with_reducible repeat (first | apply Kd.S_alloc | apply Kd.S_drewN | apply Kd.S_drew)); exact (Kd.S_mono (Kd.S_far (p := ⟨gb_2, 10, none⟩) (Kd.S_far (p := ⟨gb_2, 9, none⟩) (Kd.S_far (p := ⟨gb_2, 8, none⟩) (Kd.S_far (p := ⟨gb_2, 7, none⟩) (Kd.S_far (p := ⟨gb_2, 6, none⟩) (Kd.S_far (p := ⟨gb_2, 5, none⟩) (Kd.S_far (p := ⟨gb_2, 4, none⟩) (Kd.S_far (p := ⟨gb_2, 3, none⟩) (Kd.S_far (p := ⟨gb_2, 2, none⟩) (Kd.S_far (p := ⟨gb_2, 1, none⟩) (Kd.S_far (p := ⟨gb_2, 0, none⟩) (Kd.S_types HO_1.out BK_2.out (by decide)) (fun _ hk => hk.2) (.int .u8 t_4)) (fun _ hk => hk.2) (.int .u64 t_5)) (fun _ hk => hk.2) (.int .u64 t_6)) (fun _ hk => hk.2) (.int .u64 t_7)) (fun _ hk => hk.2) (.int .u64 t_8)) (fun _ hk => hk.2) (.bool t_9)) (fun _ hk => hk.2) (.slice Ao_3 t_10.length co_3)) (fun _ hk => hk.2) (.int .u64 t_11)) (fun _ hk => hk.2) (.int .u64 t_12)) (fun _ hk => hk.2) (.slice Ao_4 t_13.length co_4)) (fun _ hk => hk.2) (.string t_14)) (fun _ h_ => h_.1))) hb); replace HO_2 := a_ (Kd.R_below (by refine rq_ ?_; exact (Kd.R_mono (Kd.R_far (p := ⟨gb_2, 10, none⟩) (Kd.R_far (p := ⟨gb_2, 9, none⟩) (Kd.R_far (p := ⟨gb_2, 8, none⟩) (Kd.R_far (p := ⟨gb_2, 7, none⟩) (Kd.R_far (p := ⟨gb_2, 6, none⟩) (Kd.R_far (p := ⟨gb_2, 5, none⟩) (Kd.R_far (p := ⟨gb_2, 4, none⟩) (Kd.R_far (p := ⟨gb_2, 3, none⟩) (Kd.R_far (p := ⟨gb_2, 2, none⟩) (Kd.R_far (p := ⟨gb_2, 1, none⟩) (Kd.R_far (p := ⟨gb_2, 0, none⟩) (Kd.R_types HO_2.out BK_2.out (by decide)) (fun _ hk => hk.2) (.int .u8 t_4)) (fun _ hk => hk.2) (.int .u64 t_5)) (fun _ hk => hk.2) (.int .u64 t_6)) (fun _ hk => hk.2) (.int .u64 t_7)) (fun _ hk => hk.2) (.int .u64 t_8)) (fun _ hk => hk.2) (.bool t_9)) (fun _ hk => hk.2) (.slice Ao_3 t_10.length co_3)) (fun _ hk => hk.2) (.int .u64 t_11)) (fun _ hk => hk.2) (.int .u64 t_12)) (fun _ hk => hk.2) (.slice Ao_4 t_13.length co_4)) (fun _ hk => hk.2) (.string t_14)) (fun _ h_ => h_.1))) hb); replace BK_1 := a_ (blk_below (g := gb_1) (o := .cells #[.int .u8 a0_0, .int .u64 a0_1, .int .u64 a0_2, .int .u64 a0_3, .int .u64 a0_4, .bool a0_5, .slice A0_6 l0_6.length c0_6, .int .u64 a0_7, .int .u64 a0_8, .slice A0_9 l0_9.length c0_9, .string a0_10] 37 (0, 0)) (bp_1 BK_1 NB_1) hb); replace BK_2 := a_ (blk_below (g := gb_2) (o := .cells #[.int .u8 t_4, .int .u64 t_5, .int .u64 t_6, .int .u64 t_7, .int .u64 t_8, .bool t_9, .slice Ao_3 t_10.length co_3, .int .u64 t_11, .int .u64 t_12, .slice Ao_4 t_13.length co_4, .string t_14] 37 (0, 0)) (bp_0 BK_2) hb); replace HB := hB_ (bl_2 HB GE_1 GE_2) hb; (try clear hb); obtain ⟨hcz_34, hcz_35, hcz_36, hcz_37, hcz_38, hcz_39, hcz_40, hcz_41, hcz_42, hcz_43, hcz_44, hfz_34, hfz_35, hfz_36, hfz_37, hfz_38, hfz_39, hfz_40, hfz_41, hfz_42, hfz_43, hfz_44⟩ := c11_ BK_2) | (go_at_call 19; (with_reducible refine (msg_Check.calls kj5 t_4 t_5 t_6 t_7 t_8 t_9 _ _ t_10 t_11 t_12 _ _ t_13 t_14 t_19 _ ?side1 ?side2 ?side3 ?side4 A_11.out).mono ?_); (case side1 => exact cl_ ((Kd.S_reads' HO_1.out).2.2)); (case side2 => exact (Kd.S_reads' HO_1.out).2.1); (case side3 => exact cl_ ((Kd.R_reads' HO_2.out).2.2)); (case side4 => exact (Kd.R_reads' HO_2.out).2.1); rintro e w_10 ⟨rfl, hb⟩; replace HO_1 := a_ (Kd.S_below (by (with_reducible repeat (first | apply Kd.S_alloc | apply Kd.S_drewN | apply Kd.S_drew)); exact HO_1.out) hb); replace HO_2 := a_ (Kd.R_below (by refine rq_ ?_; exact HO_2.out) hb); replace BK_1 := bB_ BK_1 hb; replace BK_2 := bB_ BK_2 hb; replace HB := hB_ (bl_2 HB GE_1 GE_2) hb; (try clear hb)))
   go_ret
   exact ⟨fz_, bl_2 HB GE_1 GE_2⟩

/-- THE ONE PURE STATEMENT of gafferlaw13_MsgBack: yours. -/
def gafferlaw13_MsgBack.Pure : Prop := ∀ (x0 : S37) (x1 : ByteArray), ok37 x0 → okStr x1 → ∃ k, gafferlaw13_MsgBack.f k x0.f0 x0.f1 x0.f2 x0.f3 x0.f4 x0.f5 x0.f6 x0.f7.f0 x0.f7.f1 x0.f7.f2 x0.f7.f3 x1 = some true

end Go.Proofs.Ytcdibodjkdoknaa.PM
