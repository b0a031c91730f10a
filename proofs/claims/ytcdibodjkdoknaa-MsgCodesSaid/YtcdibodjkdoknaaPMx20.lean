-- By a program of this session.
import Derived.Test.YtcdibodjkdoknaaPMx0
import Derived.Test.YtcdibodjkdoknaaPMx4
import Derived.Test.YtcdibodjkdoknaaPMx6
import Derived.Test.YtcdibodjkdoknaaPMx8
import Derived.Test.YtcdibodjkdoknaaPMx11
import Derived.Test.YtcdibodjkdoknaaPMx15
import Derived.Test.YtcdibodjkdoknaaPMx18
import Derived.Test.YtcdibodjkdoknaaPMx19
namespace Go.Proofs.Ytcdibodjkdoknaa.PM
open Go.RowKit YtcdibodjkdoknaaW.PrintWords YtcdibodjkdoknaaW.PrintLast YtcdibodjkdoknaaW.PrintMore Sh Ytcdibodjkdoknaa.Op
attribute [local go_sem] max2_int min2_int max_two min_two max_three min_three max_four min_four
set_option linter.unusedVariables false
set_option maxHeartbeats 80000000
set_option maxRecDepth 100000
set_option linter.unusedSimpArgs false

def gafferlaw13_MsgCodes.f (k : Nat) (a0_0 : Int) (a0_1 : Int) (a0_2 : Int) (a0_3 : Int) (a0_4 : Int) (a0_5 : Bool) (l0_6 : List (S67)) (a0_7 : Int) (a0_8 : Int) (l0_9 : List Int) (a0_10 : ByteArray) (a1 : ByteArray) : Option (Bool) := (msg_Encode.f k a0_0 a0_1 a0_2 a0_3 a0_4 a0_5 l0_6 a0_7 a0_8 l0_9 a0_10).bind fun bt439 => ((gafferref13_Encode.f k a0_0 a0_1 a0_2 a0_3 a0_4 a0_5 l0_6 a0_7 a0_8 l0_9 a0_10).bind fun bt441 => ((msg_Decode.f k a1).bind fun bt443 => ((gafferref13_Decode.f k a1).bind fun bt460 => ((gafferlaw13_lives.f k).bind fun t477 => (if t477 = true then (if bt439.1.toList = bt441.1.toList then (if bt439.2 = bt441.2 then ((gafferref13_Same.f k bt443.1 bt443.2.1 bt443.2.2.1 bt443.2.2.2.1 bt443.2.2.2.2.1 bt443.2.2.2.2.2.1 bt443.2.2.2.2.2.2.1 bt443.2.2.2.2.2.2.2.1 bt443.2.2.2.2.2.2.2.2.1 bt443.2.2.2.2.2.2.2.2.2.1 bt443.2.2.2.2.2.2.2.2.2.2.1 bt460.1 bt460.2.1 bt460.2.2.1 bt460.2.2.2.1 bt460.2.2.2.2.1 bt460.2.2.2.2.2.1 bt460.2.2.2.2.2.2.1 bt460.2.2.2.2.2.2.2.1 bt460.2.2.2.2.2.2.2.2.1 bt460.2.2.2.2.2.2.2.2.2.1 bt460.2.2.2.2.2.2.2.2.2.2.1).bind fun t478 => (if t478 = true then (if bt443.2.2.2.2.2.2.2.2.2.2.2 = bt460.2.2.2.2.2.2.2.2.2.2.2 then ((msg_Check.f k a0_0 a0_1 a0_2 a0_3 a0_4 a0_5 l0_6 a0_7 a0_8 l0_9 a0_10).bind fun t479 => ((gafferref13_Check.f k a0_0 a0_1 a0_2 a0_3 a0_4 a0_5 l0_6 a0_7 a0_8 l0_9 a0_10).bind fun t480 => (some (t479 == t480)))) else (some false)) else (some false))) else (some false)) else (some false)) else (some false))))))
theorem gafferlaw13_MsgCodes.mono : ∀ a0 a1 a2 a3 a4 a5 a6 a7 a8 a9 a10 a11 k, LeO (gafferlaw13_MsgCodes.f k a0 a1 a2 a3 a4 a5 a6 a7 a8 a9 a10 a11) (gafferlaw13_MsgCodes.f (k + 1) a0 a1 a2 a3 a4 a5 a6 a7 a8 a9 a10 a11) := by
 intro a0 a1 a2 a3 a4 a5 a6 a7 a8 a9 a10 a11 k
 unfold gafferlaw13_MsgCodes.f
 repeat' with_reducible first | apply gafferlaw13_lives.mono | apply gafferref13_Check.mono | apply gafferref13_Decode.mono | apply gafferref13_Encode.mono | apply gafferref13_Same.mono | apply msg_Check.mono | apply msg_Decode.mono | apply msg_Encode.mono | apply LeO.refl | apply LeO.none | apply LeO.ite | refine LeO.bind ?_ (fun _ => ?_)
def gafferlaw13_MsgCodes.T5 : Bool × List (List Nat × List Nat) := (true, [([], []), ([0, 0], [0]), ([1], [1]), ([1], [1]), ([2, 3, 1], [1, 2, 3]), ([1, 4], [1, 4]), ([5, 1], [5]), ([6], [6]), ([6], [6]), ([7, 8, 6], [6, 7, 8]), ([6, 9], [6, 9]), ([10, 6], [10]), ([11], [11]), ([11], [11]), ([12, 13, 11, 11], [11, 12, 13]), ([11, 14], [11, 14]), ([15, 14], [15]), ([16], [16]), ([16], [16]), ([17, 18, 16], [16, 17, 18]), ([16, 19], [16, 19]), ([20, 16], [20]), ([21], [21]), ([22, 21, 21], [21, 22]), ([21], [21]), ([24, 23, 21], [21, 24]), ([23, 25, 21], [21, 23, 25]), ([21, 26], [21, 26]), ([27, 25, 0, 1, 2, 3, 4, 5, 6, 7, 8, 9, 10, 11, 12, 13, 14, 15, 16, 17, 18, 19, 20, 21, 22, 23, 24, 25, 26, 27], [27])])
def gafferlaw13_MsgCodes.B5 : List Nat := [0, 1, 3, 3, 15, 31, 63, 127, 127, 511, 1023, 2047, 4095, 4095, 16383, 32767, 65535, 131071, 131071, 524287, 1048575, 2097151, 4194303, 8388607, 4194303, 33554431, 67108863, 134217727, 268435455]
theorem gafferlaw13_MsgCodes.tab5 : rtab .any (opsOf Try.f4 5) = gafferlaw13_MsgCodes.T5 := by kernel_rfl
theorem gafferlaw13_MsgCodes.bits5 : waitsOk gafferlaw13_MsgCodes.T5.2 gafferlaw13_MsgCodes.B5 = true := by kernel_rfl
theorem gafferlaw13_MsgCodes.calls (k : Nat) (a0_0 : Int) (a0_1 : Int) (a0_2 : Int) (a0_3 : Int) (a0_4 : Int) (a0_5 : Bool) (A0_6 : Option Addr) (c0_6 : Nat) (l0_6 : List (S67)) (a0_7 : Int) (a0_8 : Int) (A0_9 : Option Addr) (c0_9 : Nat) (l0_9 : List Int) (a0_10 : ByteArray) (a1 : ByteArray) (r : Bool) (w : World) (hr0_6 : Kd.C k67 w A0_6 l0_6.length l0_6) (hc0_6 : l0_6.length ≤ c0_6) (hr0_9 : Kd.C (Kd.int .i64) w A0_9 l0_9.length l0_9) (hc0_9 : l0_9.length ≤ c0_9) (h : gafferlaw13_MsgCodes.f k a0_0 a0_1 a0_2 a0_3 a0_4 a0_5 l0_6 a0_7 a0_8 l0_9 a0_10 a1 = some r) (hr : r = true) :
  Calls Try.prog 4 #[.agg #[.int .u8 a0_0, .int .u64 a0_1, .int .u64 a0_2, .int .u64 a0_3, .int .u64 a0_4, .bool a0_5, .slice A0_6 l0_6.length c0_6, .int .u64 a0_7, .int .u64 a0_8, .slice A0_9 l0_9.length c0_9, .string a0_10], .string a1] w fun e w' => e = .returned (.bool r) ∧ Below w.heap.size w w' := by
 have hu_1 := Try.underlying37
 have HR_1 := a_ hr0_6
 have HC_1 := a_ hc0_6
 clear hr0_6 hc0_6
 have HR_2 := a_ hr0_9
 have HC_2 := a_ hc0_9
 clear hr0_9 hc0_9
 have HB := a_ (Below.refl w.heap.size w)
 have H := h
 unfold gafferlaw13_MsgCodes.f at H
 clear h
 obtain ⟨⟨t_1, t_2⟩, A_1, H⟩ := Option.bind_eq_some_iff.mp H
 try dsimp only at H
 have A_2 := a_ A_1
 clear A_1
 obtain ⟨⟨t_3, t_4⟩, A_3, H⟩ := Option.bind_eq_some_iff.mp H
 try dsimp only at H
 have A_4 := a_ A_3
 clear A_3
 obtain ⟨⟨t_5, t_6, t_7, t_8, t_9, t_10, t_11, t_12, t_13, t_14, t_15, t_16⟩, A_5, H⟩ := Option.bind_eq_some_iff.mp H
 try dsimp only at H
 have A_6 := a_ A_5
 clear A_5
 obtain ⟨⟨t_17, t_18, t_19, t_20, t_21, t_22, t_23, t_24, t_25, t_26, t_27, t_28⟩, A_7, H⟩ := Option.bind_eq_some_iff.mp H
 try dsimp only at H
 have A_8 := a_ A_7
 clear A_7
 obtain ⟨t_29, A_9, H⟩ := Option.bind_eq_some_iff.mp H
 try dsimp only at H
 have A_10 := a_ A_9
 clear A_9
 by_cases c_1 : t_29 = true
 rotate_left
 ·replace c_1 := Bool.eq_false_iff.mpr c_1
  subst c_1
  rw [if_neg (show ¬ (false = true) by decide)] at H
  exact absurd (H.trans (congrArg some hr)) (by simp)
 subst c_1
 rw [if_pos rfl] at H
 by_cases c_2 : t_1.toList = t_3.toList
 rotate_left
 ·rw [if_neg c_2] at H
  have c_3 : (t_1.toList == t_3.toList) = false := beq_eq_false_iff_ne.mpr c_2
  have c_4 : (t_1.toList != t_3.toList) = true := bne_iff_ne.mpr c_2
  exact absurd (H.trans (congrArg some hr)) (by simp)
 rw [if_pos c_2] at H
 have c_3 : (t_1.toList == t_3.toList) = true := beq_iff_eq.mpr c_2
 have c_4 : (t_1.toList != t_3.toList) = false := bne_eq_false_iff_eq.mpr c_2
 clear c_2
 by_cases c_5 : t_2 = t_4
 rotate_left
 ·rw [if_neg c_5] at H
  have c_6 : (t_2 == t_4) = false := beq_eq_false_iff_ne.mpr c_5
  have c_7 : (t_2 != t_4) = true := bne_iff_ne.mpr c_5
  exact absurd (H.trans (congrArg some hr)) (by simp)
 rw [if_pos c_5] at H
 have c_6 : (t_2 == t_4) = true := beq_iff_eq.mpr c_5
 have c_7 : (t_2 != t_4) = false := bne_eq_false_iff_eq.mpr c_5
 clear c_5
 obtain ⟨t_30, A_11, H⟩ := Option.bind_eq_some_iff.mp H
 try dsimp only at H
 have A_12 := a_ A_11
 clear A_11
 by_cases c_8 : t_30 = true
 rotate_left
 ·replace c_8 := Bool.eq_false_iff.mpr c_8
  subst c_8
  rw [if_neg (show ¬ (false = true) by decide)] at H
  exact absurd (H.trans (congrArg some hr)) (by simp)
 subst c_8
 rw [if_pos rfl] at H
 by_cases c_9 : t_16 = t_28
 rotate_left
 ·rw [if_neg c_9] at H
  have c_10 : (t_16 == t_28) = false := beq_eq_false_iff_ne.mpr c_9
  have c_11 : (t_16 != t_28) = true := bne_iff_ne.mpr c_9
  exact absurd (H.trans (congrArg some hr)) (by simp)
 rw [if_pos c_9] at H
 have c_10 : (t_16 == t_28) = true := beq_iff_eq.mpr c_9
 have c_11 : (t_16 != t_28) = false := bne_eq_false_iff_eq.mpr c_9
 clear c_9
 obtain ⟨t_31, A_13, H⟩ := Option.bind_eq_some_iff.mp H
 try dsimp only at H
 have A_14 := a_ A_13
 clear A_13
 obtain ⟨t_32, A_15, H⟩ := Option.bind_eq_some_iff.mp H
 try dsimp only at H
 have A_16 := a_ A_15
 clear A_15
 obtain rfl := Option.some.inj H
 go_enter Try.func4, Try.ntmps4
 try go_wp2_with (first | ((with_reducible refine gd_ 2 ?_); refine bx_ 2 #[.int .u8 a0_0, .int .u64 a0_1, .int .u64 a0_2, .int .u64 a0_3, .int .u64 a0_4, .bool a0_5, .slice A0_6 l0_6.length c0_6, .int .u64 a0_7, .int .u64 a0_8, .slice A0_9 l0_9.length c0_9, .string a0_10] 37 ?_; intro gb_1 hg w_1 hbox hb; have BK_1 := a_ (hbox); have GE_1 := a_ (bs_0 hg HB); replace HB := hB_ (bl_ HB) hb; clear hb hbox hg; obtain ⟨_, _, _, _, _, _, _, _, _, _, _, _, _, _, _, _, _, _, _, _, _, _⟩ := c11_ BK_1) | ((with_reducible refine gk_ 13 ?_); refine gl_ (some 15) Try.func13 #[.agg #[.int .u8 a0_0, .int .u64 a0_1, .int .u64 a0_2, .int .u64 a0_3, .int .u64 a0_4, .bool a0_5, .slice A0_6 l0_6.length c0_6, .int .u64 a0_7, .int .u64 a0_8, .slice A0_9 l0_9.length c0_9, .string a0_10]] ?_; (with_reducible refine (msg_Encode.calls k a0_0 a0_1 a0_2 a0_3 a0_4 a0_5 _ _ l0_6 a0_7 a0_8 _ _ l0_9 a0_10 t_1 t_2 _ ?side1 ?side2 ?side3 ?side4 A_2.out).mono ?_); (case side1 => exact cl_ (Kd.C_below HR_1.out HB.out)); (case side2 => exact HC_1.out); (case side3 => exact cl_ (Kd.C_below HR_2.out HB.out)); (case side4 => exact HC_2.out); rintro e w_2 ⟨rfl, hb⟩; refine ⟨_, rfl, ?_⟩; replace BK_1 := bB_ BK_1 hb; replace HB := hB_ (bl_1 HB GE_1) hb; (try clear hb); obtain ⟨_, _, _, _, _, _, _, _, _, _, _, _, _, _, _, _, _, _, _, _, _, _⟩ := c11_ BK_1) | ((with_reducible refine gk_ 14 ?_); refine gl_ (some 20) Try.func14 #[.agg #[.int .u8 a0_0, .int .u64 a0_1, .int .u64 a0_2, .int .u64 a0_3, .int .u64 a0_4, .bool a0_5, .slice A0_6 l0_6.length c0_6, .int .u64 a0_7, .int .u64 a0_8, .slice A0_9 l0_9.length c0_9, .string a0_10]] ?_; (with_reducible refine (gafferref13_Encode.calls k a0_0 a0_1 a0_2 a0_3 a0_4 a0_5 _ _ l0_6 a0_7 a0_8 _ _ l0_9 a0_10 t_3 t_4 _ ?side1 ?side2 ?side3 ?side4 A_4.out).mono ?_); (case side1 => exact cl_ (Kd.C_below HR_1.out HB.out)); (case side2 => exact HC_1.out); (case side3 => exact cl_ (Kd.C_below HR_2.out HB.out)); (case side4 => exact HC_2.out); rintro e w_3 ⟨rfl, hb⟩; refine ⟨_, rfl, ?_⟩; replace BK_1 := bB_ BK_1 hb; replace HB := hB_ (bl_1 HB GE_1) hb; (try clear hb)) | ((with_reducible refine gk_ 15 ?_); refine gl_ (some 25) Try.func15 #[.string a1] ?_; (with_reducible refine (msg_Decode.calls k a1 t_5 t_6 t_7 t_8 t_9 t_10 t_11 t_12 t_13 t_14 t_15 t_16 _ A_6.out).mono ?_); rintro e w_4 ⟨v_1, v_2, rfl, ho_1, ho_2, hb⟩; refine ⟨_, rfl, ?_⟩; have HO_1 := a_ (Kd.S_lower ho_1 (below_size (bl_1 HB GE_1))); have HO_2 := a_ (Kd.R_lower ho_2 (below_size (bl_1 HB GE_1))); replace BK_1 := bB_ BK_1 hb; replace HB := hB_ (bl_1 HB GE_1) hb; (try clear hb); (try clear ho_1); (try clear ho_2)) | ((with_reducible refine gd_ 9 ?_); refine bx_ 9 #[.int .u8 0, .int .u64 0, .int .u64 0, .int .u64 0, .int .u64 0, .bool false, .slice none 0 0, .int .u64 0, .int .u64 0, .slice none 0 0, .string (⟨#[]⟩ : ByteArray)] 37 ?_; intro gb_2 hg w_5 hbox hb; replace HO_1 := a_ (Kd.S_below (by (with_reducible repeat (first | apply Kd.S_alloc | apply Kd.S_drewN | apply Kd.S_drew)); exact HO_1.out) hb); replace HO_2 := a_ (Kd.R_below (by refine rq_ ?_; exact HO_2.out) hb); have BK_2 := a_ (hbox); have GE_2 := a_ (bs_1 hg HB GE_1); replace HB := hB_ (bl_1 HB GE_1) hb; have NB_1 := nB_ hg BK_1; have NB_2 := nC_ hg BK_1; replace BK_1 := bB_ BK_1 hb; clear hb hbox hg; have hnb_1 := NB_2.out; have hnc_1 := NB_1.out; obtain ⟨_, _, _, _, _, _, _, _, _, _, _, _, _, _, _, _, _, _, _, _, _, _⟩ := c11_ BK_2; obtain ⟨Ao_1, co_1, eo_1⟩ := Kd.S_slice HO_1.out; subst eo_1; obtain ⟨Ao_2, co_2, eo_2⟩ := Kd.R_slice HO_2.out; subst eo_2) | ((with_reducible refine gk_ 16 ?_); refine gl_ (some 30) Try.func16 #[.string a1] ?_; (with_reducible refine (gafferref13_Decode.calls k a1 t_17 t_18 t_19 t_20 t_21 t_22 t_23 t_24 t_25 t_26 t_27 t_28 _ A_8.out).mono ?_); rintro e w_6 ⟨v_3, v_4, rfl, ho_1, ho_2, hb⟩; refine ⟨_, rfl, ?_⟩; have HO_3 := a_ (Kd.S_lower (Kd.S_new' (Kd.S_new' ho_1 (Kd.S_lt (by (with_reducible repeat (first | apply Kd.S_alloc | apply Kd.S_drewN | apply Kd.S_drew)); exact (Kd.S_mono (Kd.S_far (p := ⟨gb_2, 10, none⟩) (Kd.S_far (p := ⟨gb_2, 9, none⟩) (Kd.S_far (p := ⟨gb_2, 8, none⟩) (Kd.S_far (p := ⟨gb_2, 7, none⟩) (Kd.S_far (p := ⟨gb_2, 6, none⟩) (Kd.S_far (p := ⟨gb_2, 5, none⟩) (Kd.S_far (p := ⟨gb_2, 4, none⟩) (Kd.S_far (p := ⟨gb_2, 3, none⟩) (Kd.S_far (p := ⟨gb_2, 2, none⟩) (Kd.S_far (p := ⟨gb_2, 1, none⟩) (Kd.S_far (p := ⟨gb_2, 0, none⟩) (Kd.S_types HO_1.out BK_2.out (by decide)) (fun _ hk => hk.2) (.int .u8 t_5)) (fun _ hk => hk.2) (.int .u64 t_6)) (fun _ hk => hk.2) (.int .u64 t_7)) (fun _ hk => hk.2) (.int .u64 t_8)) (fun _ hk => hk.2) (.int .u64 t_9)) (fun _ hk => hk.2) (.bool t_10)) (fun _ hk => hk.2) (.slice Ao_1 t_11.length co_1)) (fun _ hk => hk.2) (.int .u64 t_12)) (fun _ hk => hk.2) (.int .u64 t_13)) (fun _ hk => hk.2) (.slice Ao_2 t_14.length co_2)) (fun _ hk => hk.2) (.string t_15)) (fun _ h_ => h_.1))))) (Kd.R_lt (by refine rq_ ?_; exact (Kd.R_mono (Kd.R_far (p := ⟨gb_2, 10, none⟩) (Kd.R_far (p := ⟨gb_2, 9, none⟩) (Kd.R_far (p := ⟨gb_2, 8, none⟩) (Kd.R_far (p := ⟨gb_2, 7, none⟩) (Kd.R_far (p := ⟨gb_2, 6, none⟩) (Kd.R_far (p := ⟨gb_2, 5, none⟩) (Kd.R_far (p := ⟨gb_2, 4, none⟩) (Kd.R_far (p := ⟨gb_2, 3, none⟩) (Kd.R_far (p := ⟨gb_2, 2, none⟩) (Kd.R_far (p := ⟨gb_2, 1, none⟩) (Kd.R_far (p := ⟨gb_2, 0, none⟩) (Kd.R_types HO_2.out BK_2.out (by decide)) (fun _ hk => hk.2) (.int .u8 t_5)) (fun _ hk => hk.2) (.int .u64 t_6)) (fun _ hk => hk.2) (.int .u64 t_7)) (fun _ hk => hk.2) (.int .u64 t_8)) (fun _ hk => hk.2) (.int .u64 t_9)) (fun _ hk => hk.2) (.bool t_10)) (fun _ hk => hk.2) (.slice Ao_1 t_11.length co_1)) (fun _ hk => hk.2) (.int .u64 t_12)) (fun _ hk => hk.2) (.int .u64 t_13)) (fun _ hk => hk.2) (.slice Ao_2 t_14.length co_2)) (fun _ hk => hk.2) (.string t_15)) (fun _ h_ => h_.1))))) (below_size (bl_2 HB GE_1 GE_2))); replace HO_1 := a_ (Kd.S_mono (Kd.S_told (Kd.S_told (Kd.S_old (by (with_reducible repeat (first | apply Kd.S_alloc | apply Kd.S_drewN | apply Kd.S_drew)); exact (Kd.S_mono (Kd.S_far (p := ⟨gb_2, 10, none⟩) (Kd.S_far (p := ⟨gb_2, 9, none⟩) (Kd.S_far (p := ⟨gb_2, 8, none⟩) (Kd.S_far (p := ⟨gb_2, 7, none⟩) (Kd.S_far (p := ⟨gb_2, 6, none⟩) (Kd.S_far (p := ⟨gb_2, 5, none⟩) (Kd.S_far (p := ⟨gb_2, 4, none⟩) (Kd.S_far (p := ⟨gb_2, 3, none⟩) (Kd.S_far (p := ⟨gb_2, 2, none⟩) (Kd.S_far (p := ⟨gb_2, 1, none⟩) (Kd.S_far (p := ⟨gb_2, 0, none⟩) (Kd.S_types HO_1.out BK_2.out (by decide)) (fun _ hk => hk.2) (.int .u8 t_5)) (fun _ hk => hk.2) (.int .u64 t_6)) (fun _ hk => hk.2) (.int .u64 t_7)) (fun _ hk => hk.2) (.int .u64 t_8)) (fun _ hk => hk.2) (.int .u64 t_9)) (fun _ hk => hk.2) (.bool t_10)) (fun _ hk => hk.2) (.slice Ao_1 t_11.length co_1)) (fun _ hk => hk.2) (.int .u64 t_12)) (fun _ hk => hk.2) (.int .u64 t_13)) (fun _ hk => hk.2) (.slice Ao_2 t_14.length co_2)) (fun _ hk => hk.2) (.string t_15)) (fun _ h_ => h_.1))) hb) (Kd.S_base ho_1)) (Kd.R_base ho_2)) (fun _ h_ => h_.1)); have HO_4 := a_ (Kd.R_lower (Kd.R_new' ho_2 (Kd.R_lt (by refine rq_ ?_; exact (Kd.R_mono (Kd.R_far (p := ⟨gb_2, 10, none⟩) (Kd.R_far (p := ⟨gb_2, 9, none⟩) (Kd.R_far (p := ⟨gb_2, 8, none⟩) (Kd.R_far (p := ⟨gb_2, 7, none⟩) (Kd.R_far (p := ⟨gb_2, 6, none⟩) (Kd.R_far (p := ⟨gb_2, 5, none⟩) (Kd.R_far (p := ⟨gb_2, 4, none⟩) (Kd.R_far (p := ⟨gb_2, 3, none⟩) (Kd.R_far (p := ⟨gb_2, 2, none⟩) (Kd.R_far (p := ⟨gb_2, 1, none⟩) (Kd.R_far (p := ⟨gb_2, 0, none⟩) (Kd.R_types HO_2.out BK_2.out (by decide)) (fun _ hk => hk.2) (.int .u8 t_5)) (fun _ hk => hk.2) (.int .u64 t_6)) (fun _ hk => hk.2) (.int .u64 t_7)) (fun _ hk => hk.2) (.int .u64 t_8)) (fun _ hk => hk.2) (.int .u64 t_9)) (fun _ hk => hk.2) (.bool t_10)) (fun _ hk => hk.2) (.slice Ao_1 t_11.length co_1)) (fun _ hk => hk.2) (.int .u64 t_12)) (fun _ hk => hk.2) (.int .u64 t_13)) (fun _ hk => hk.2) (.slice Ao_2 t_14.length co_2)) (fun _ hk => hk.2) (.string t_15)) (fun _ h_ => h_.1))))) (below_size (bl_2 HB GE_1 GE_2))); replace HO_2 := a_ (Kd.R_elder' (by refine rq_ ?_; exact (Kd.R_mono (Kd.R_far (p := ⟨gb_2, 10, none⟩) (Kd.R_far (p := ⟨gb_2, 9, none⟩) (Kd.R_far (p := ⟨gb_2, 8, none⟩) (Kd.R_far (p := ⟨gb_2, 7, none⟩) (Kd.R_far (p := ⟨gb_2, 6, none⟩) (Kd.R_far (p := ⟨gb_2, 5, none⟩) (Kd.R_far (p := ⟨gb_2, 4, none⟩) (Kd.R_far (p := ⟨gb_2, 3, none⟩) (Kd.R_far (p := ⟨gb_2, 2, none⟩) (Kd.R_far (p := ⟨gb_2, 1, none⟩) (Kd.R_far (p := ⟨gb_2, 0, none⟩) (Kd.R_types HO_2.out BK_2.out (by decide)) (fun _ hk => hk.2) (.int .u8 t_5)) (fun _ hk => hk.2) (.int .u64 t_6)) (fun _ hk => hk.2) (.int .u64 t_7)) (fun _ hk => hk.2) (.int .u64 t_8)) (fun _ hk => hk.2) (.int .u64 t_9)) (fun _ hk => hk.2) (.bool t_10)) (fun _ hk => hk.2) (.slice Ao_1 t_11.length co_1)) (fun _ hk => hk.2) (.int .u64 t_12)) (fun _ hk => hk.2) (.int .u64 t_13)) (fun _ hk => hk.2) (.slice Ao_2 t_14.length co_2)) (fun _ hk => hk.2) (.string t_15)) (fun _ h_ => h_.1))) (Kd.R_base ho_2) hb); replace BK_1 := a_ (blk_below (g := gb_1) (o := .cells #[.int .u8 a0_0, .int .u64 a0_1, .int .u64 a0_2, .int .u64 a0_3, .int .u64 a0_4, .bool a0_5, .slice A0_6 l0_6.length c0_6, .int .u64 a0_7, .int .u64 a0_8, .slice A0_9 l0_9.length c0_9, .string a0_10] 37 (0, 0)) (bp_1 BK_1 NB_1) hb); replace BK_2 := a_ (blk_below (g := gb_2) (o := .cells #[.int .u8 t_5, .int .u64 t_6, .int .u64 t_7, .int .u64 t_8, .int .u64 t_9, .bool t_10, .slice Ao_1 t_11.length co_1, .int .u64 t_12, .int .u64 t_13, .slice Ao_2 t_14.length co_2, .string t_15] 37 (0, 0)) (bp_0 BK_2) hb); replace HB := hB_ (bl_2 HB GE_1 GE_2) hb; (try clear hb); (try clear ho_1); (try clear ho_2)) | ((with_reducible refine gd_ 11 ?_); refine bx_ 11 #[.int .u8 0, .int .u64 0, .int .u64 0, .int .u64 0, .int .u64 0, .bool false, .slice none 0 0, .int .u64 0, .int .u64 0, .slice none 0 0, .string (⟨#[]⟩ : ByteArray)] 37 ?_; intro gb_3 hg w_7 hbox hb; replace HO_1 := a_ (Kd.S_below (by (with_reducible repeat (first | apply Kd.S_alloc | apply Kd.S_drewN | apply Kd.S_drew)); exact HO_1.out) hb); replace HO_2 := a_ (Kd.R_below (by refine rq_ ?_; exact HO_2.out) hb); replace HO_3 := a_ (Kd.S_below (by (with_reducible repeat (first | apply Kd.S_alloc | apply Kd.S_drewN | apply Kd.S_drew)); exact HO_3.out) hb); replace HO_4 := a_ (Kd.R_below (by refine rq_ ?_; exact HO_4.out) hb); have BK_3 := a_ (hbox); have GE_3 := a_ (bs_2 hg HB GE_1 GE_2); replace HB := hB_ (bl_2 HB GE_1 GE_2) hb; have NB_3 := nB_ hg BK_1; have NB_4 := nC_ hg BK_1; replace BK_1 := bB_ BK_1 hb; have NB_5 := nB_ hg BK_2; have NB_6 := nC_ hg BK_2; replace BK_2 := bB_ BK_2 hb; clear hb hbox hg; have hnb_2 := NB_4.out; have hnc_2 := NB_3.out; have hnb_3 := NB_6.out; have hnc_3 := NB_5.out; obtain ⟨_, _, _, _, _, _, _, _, _, _, _, _, _, _, _, _, _, _, _, _, _, _⟩ := c11_ BK_3; obtain ⟨Ao_3, co_3, eo_3⟩ := Kd.S_slice HO_3.out; subst eo_3; obtain ⟨Ao_4, co_4, eo_4⟩ := Kd.R_slice HO_4.out; subst eo_4))
 have n_1 : Aside0 (Kd.S k67 67 (((((((((((w_7.setCell ⟨gb_3, 0, none⟩ (.int .u8 t_17)).setCell ⟨gb_3, 1, none⟩ (.int .u64 t_18)).setCell ⟨gb_3, 2, none⟩ (.int .u64 t_19)).setCell ⟨gb_3, 3, none⟩ (.int .u64 t_20)).setCell ⟨gb_3, 4, none⟩ (.int .u64 t_21)).setCell ⟨gb_3, 5, none⟩ (.bool t_22)).setCell ⟨gb_3, 6, none⟩ (.slice Ao_3 t_23.length co_3)).setCell ⟨gb_3, 7, none⟩ (.int .u64 t_24)).setCell ⟨gb_3, 8, none⟩ (.int .u64 t_25)).setCell ⟨gb_3, 9, none⟩ (.slice Ao_4 t_26.length co_4)).setCell ⟨gb_3, 10, none⟩ (.string t_27)) w.heap.size (fun k_ => some k_ ≠ (.slice Ao_2 t_14.length co_2 : Value).ownBlock ∧ some k_ ≠ (.slice Ao_3 t_23.length co_3 : Value).ownBlock ∧ some k_ ≠ (.slice Ao_4 t_26.length co_4 : Value).ownBlock) (.slice Ao_1 t_11.length co_1) t_11) := ⟨by (with_reducible repeat (first | apply Kd.S_alloc | apply Kd.S_drewN | apply Kd.S_drew)); exact Kd.S_mono (Kd.S_far (p := ⟨gb_3, 10, none⟩) (Kd.S_far (p := ⟨gb_3, 9, none⟩) (Kd.S_far (p := ⟨gb_3, 8, none⟩) (Kd.S_far (p := ⟨gb_3, 7, none⟩) (Kd.S_far (p := ⟨gb_3, 6, none⟩) (Kd.S_far (p := ⟨gb_3, 5, none⟩) (Kd.S_far (p := ⟨gb_3, 4, none⟩) (Kd.S_far (p := ⟨gb_3, 3, none⟩) (Kd.S_far (p := ⟨gb_3, 2, none⟩) (Kd.S_far (p := ⟨gb_3, 1, none⟩) (Kd.S_far (p := ⟨gb_3, 0, none⟩) (Kd.S_types HO_1.out BK_3.out (by decide)) (fun _ hk => hk.2) (.int .u8 t_17)) (fun _ hk => hk.2) (.int .u64 t_18)) (fun _ hk => hk.2) (.int .u64 t_19)) (fun _ hk => hk.2) (.int .u64 t_20)) (fun _ hk => hk.2) (.int .u64 t_21)) (fun _ hk => hk.2) (.bool t_22)) (fun _ hk => hk.2) (.slice Ao_3 t_23.length co_3)) (fun _ hk => hk.2) (.int .u64 t_24)) (fun _ hk => hk.2) (.int .u64 t_25)) (fun _ hk => hk.2) (.slice Ao_4 t_26.length co_4)) (fun _ hk => hk.2) (.string t_27)) (fun _ hk => ⟨hk.1.1.1, ⟨hk.1.1.2, hk.1.2⟩⟩)⟩
 have n_2 : Aside0 (Kd.R (Kd.int .i64) 3 (((((((((((w_7.setCell ⟨gb_3, 0, none⟩ (.int .u8 t_17)).setCell ⟨gb_3, 1, none⟩ (.int .u64 t_18)).setCell ⟨gb_3, 2, none⟩ (.int .u64 t_19)).setCell ⟨gb_3, 3, none⟩ (.int .u64 t_20)).setCell ⟨gb_3, 4, none⟩ (.int .u64 t_21)).setCell ⟨gb_3, 5, none⟩ (.bool t_22)).setCell ⟨gb_3, 6, none⟩ (.slice Ao_3 t_23.length co_3)).setCell ⟨gb_3, 7, none⟩ (.int .u64 t_24)).setCell ⟨gb_3, 8, none⟩ (.int .u64 t_25)).setCell ⟨gb_3, 9, none⟩ (.slice Ao_4 t_26.length co_4)).setCell ⟨gb_3, 10, none⟩ (.string t_27)) w.heap.size (fun k_ => some k_ ≠ (.slice Ao_4 t_26.length co_4 : Value).ownBlock) (.slice Ao_2 t_14.length co_2) t_14) := ⟨by refine rq_ ?_; exact Kd.R_mono (Kd.R_far (p := ⟨gb_3, 10, none⟩) (Kd.R_far (p := ⟨gb_3, 9, none⟩) (Kd.R_far (p := ⟨gb_3, 8, none⟩) (Kd.R_far (p := ⟨gb_3, 7, none⟩) (Kd.R_far (p := ⟨gb_3, 6, none⟩) (Kd.R_far (p := ⟨gb_3, 5, none⟩) (Kd.R_far (p := ⟨gb_3, 4, none⟩) (Kd.R_far (p := ⟨gb_3, 3, none⟩) (Kd.R_far (p := ⟨gb_3, 2, none⟩) (Kd.R_far (p := ⟨gb_3, 1, none⟩) (Kd.R_far (p := ⟨gb_3, 0, none⟩) (Kd.R_types HO_2.out BK_3.out (by decide)) (fun _ hk => hk.2) (.int .u8 t_17)) (fun _ hk => hk.2) (.int .u64 t_18)) (fun _ hk => hk.2) (.int .u64 t_19)) (fun _ hk => hk.2) (.int .u64 t_20)) (fun _ hk => hk.2) (.int .u64 t_21)) (fun _ hk => hk.2) (.bool t_22)) (fun _ hk => hk.2) (.slice Ao_3 t_23.length co_3)) (fun _ hk => hk.2) (.int .u64 t_24)) (fun _ hk => hk.2) (.int .u64 t_25)) (fun _ hk => hk.2) (.slice Ao_4 t_26.length co_4)) (fun _ hk => hk.2) (.string t_27)) (fun _ hk => hk.1.2)⟩
 have n_3 : Aside0 (Kd.S k67 67 (((((((((((w_7.setCell ⟨gb_3, 0, none⟩ (.int .u8 t_17)).setCell ⟨gb_3, 1, none⟩ (.int .u64 t_18)).setCell ⟨gb_3, 2, none⟩ (.int .u64 t_19)).setCell ⟨gb_3, 3, none⟩ (.int .u64 t_20)).setCell ⟨gb_3, 4, none⟩ (.int .u64 t_21)).setCell ⟨gb_3, 5, none⟩ (.bool t_22)).setCell ⟨gb_3, 6, none⟩ (.slice Ao_3 t_23.length co_3)).setCell ⟨gb_3, 7, none⟩ (.int .u64 t_24)).setCell ⟨gb_3, 8, none⟩ (.int .u64 t_25)).setCell ⟨gb_3, 9, none⟩ (.slice Ao_4 t_26.length co_4)).setCell ⟨gb_3, 10, none⟩ (.string t_27)) w.heap.size (fun k_ => some k_ ≠ (.slice Ao_1 t_11.length co_1 : Value).ownBlock ∧ some k_ ≠ (.slice Ao_2 t_14.length co_2 : Value).ownBlock ∧ some k_ ≠ (.slice Ao_4 t_26.length co_4 : Value).ownBlock) (.slice Ao_3 t_23.length co_3) t_23) := ⟨by (with_reducible repeat (first | apply Kd.S_alloc | apply Kd.S_drewN | apply Kd.S_drew)); exact Kd.S_mono (Kd.S_far (p := ⟨gb_3, 10, none⟩) (Kd.S_far (p := ⟨gb_3, 9, none⟩) (Kd.S_far (p := ⟨gb_3, 8, none⟩) (Kd.S_far (p := ⟨gb_3, 7, none⟩) (Kd.S_far (p := ⟨gb_3, 6, none⟩) (Kd.S_far (p := ⟨gb_3, 5, none⟩) (Kd.S_far (p := ⟨gb_3, 4, none⟩) (Kd.S_far (p := ⟨gb_3, 3, none⟩) (Kd.S_far (p := ⟨gb_3, 2, none⟩) (Kd.S_far (p := ⟨gb_3, 1, none⟩) (Kd.S_far (p := ⟨gb_3, 0, none⟩) (Kd.S_types HO_3.out BK_3.out (by decide)) (fun _ hk => hk.2) (.int .u8 t_17)) (fun _ hk => hk.2) (.int .u64 t_18)) (fun _ hk => hk.2) (.int .u64 t_19)) (fun _ hk => hk.2) (.int .u64 t_20)) (fun _ hk => hk.2) (.int .u64 t_21)) (fun _ hk => hk.2) (.bool t_22)) (fun _ hk => hk.2) (.slice Ao_3 t_23.length co_3)) (fun _ hk => hk.2) (.int .u64 t_24)) (fun _ hk => hk.2) (.int .u64 t_25)) (fun _ hk => hk.2) (.slice Ao_4 t_26.length co_4)) (fun _ hk => hk.2) (.string t_27)) (fun _ hk => ⟨hk.1.1.2, ⟨hk.1.2, hk.1.1.1⟩⟩)⟩
 have n_4 : Aside0 (Kd.R (Kd.int .i64) 3 (((((((((((w_7.setCell ⟨gb_3, 0, none⟩ (.int .u8 t_17)).setCell ⟨gb_3, 1, none⟩ (.int .u64 t_18)).setCell ⟨gb_3, 2, none⟩ (.int .u64 t_19)).setCell ⟨gb_3, 3, none⟩ (.int .u64 t_20)).setCell ⟨gb_3, 4, none⟩ (.int .u64 t_21)).setCell ⟨gb_3, 5, none⟩ (.bool t_22)).setCell ⟨gb_3, 6, none⟩ (.slice Ao_3 t_23.length co_3)).setCell ⟨gb_3, 7, none⟩ (.int .u64 t_24)).setCell ⟨gb_3, 8, none⟩ (.int .u64 t_25)).setCell ⟨gb_3, 9, none⟩ (.slice Ao_4 t_26.length co_4)).setCell ⟨gb_3, 10, none⟩ (.string t_27)) w.heap.size (fun k_ => some k_ ≠ (.slice Ao_2 t_14.length co_2 : Value).ownBlock) (.slice Ao_4 t_26.length co_4) t_26) := ⟨by refine rq_ ?_; exact Kd.R_mono (Kd.R_far (p := ⟨gb_3, 10, none⟩) (Kd.R_far (p := ⟨gb_3, 9, none⟩) (Kd.R_far (p := ⟨gb_3, 8, none⟩) (Kd.R_far (p := ⟨gb_3, 7, none⟩) (Kd.R_far (p := ⟨gb_3, 6, none⟩) (Kd.R_far (p := ⟨gb_3, 5, none⟩) (Kd.R_far (p := ⟨gb_3, 4, none⟩) (Kd.R_far (p := ⟨gb_3, 3, none⟩) (Kd.R_far (p := ⟨gb_3, 2, none⟩) (Kd.R_far (p := ⟨gb_3, 1, none⟩) (Kd.R_far (p := ⟨gb_3, 0, none⟩) (Kd.R_types HO_4.out BK_3.out (by decide)) (fun _ hk => hk.2) (.int .u8 t_17)) (fun _ hk => hk.2) (.int .u64 t_18)) (fun _ hk => hk.2) (.int .u64 t_19)) (fun _ hk => hk.2) (.int .u64 t_20)) (fun _ hk => hk.2) (.int .u64 t_21)) (fun _ hk => hk.2) (.bool t_22)) (fun _ hk => hk.2) (.slice Ao_3 t_23.length co_3)) (fun _ hk => hk.2) (.int .u64 t_24)) (fun _ hk => hk.2) (.int .u64 t_25)) (fun _ hk => hk.2) (.slice Ao_4 t_26.length co_4)) (fun _ hk => hk.2) (.string t_27)) (fun _ hk => hk.1.2)⟩
 have n_5 : Aside0 ((((((((((((w_7.setCell ⟨gb_3, 0, none⟩ (.int .u8 t_17)).setCell ⟨gb_3, 1, none⟩ (.int .u64 t_18)).setCell ⟨gb_3, 2, none⟩ (.int .u64 t_19)).setCell ⟨gb_3, 3, none⟩ (.int .u64 t_20)).setCell ⟨gb_3, 4, none⟩ (.int .u64 t_21)).setCell ⟨gb_3, 5, none⟩ (.bool t_22)).setCell ⟨gb_3, 6, none⟩ (.slice Ao_3 t_23.length co_3)).setCell ⟨gb_3, 7, none⟩ (.int .u64 t_24)).setCell ⟨gb_3, 8, none⟩ (.int .u64 t_25)).setCell ⟨gb_3, 9, none⟩ (.slice Ao_4 t_26.length co_4)).setCell ⟨gb_3, 10, none⟩ (.string t_27)).heap[gb_1]? = some (.cells #[.int .u8 a0_0, .int .u64 a0_1, .int .u64 a0_2, .int .u64 a0_3, .int .u64 a0_4, .bool a0_5, .slice A0_6 l0_6.length c0_6, .int .u64 a0_7, .int .u64 a0_8, .slice A0_9 l0_9.length c0_9, .string a0_10] 37 (0, 0))) := ⟨by refine bq_ ?_; refine blk_far ?_ NB_3.out _; refine bq_ ?_; refine blk_far ?_ NB_3.out _; refine bq_ ?_; refine blk_far ?_ NB_3.out _; refine bq_ ?_; refine blk_far ?_ NB_3.out _; refine bq_ ?_; refine blk_far ?_ NB_3.out _; refine bq_ ?_; refine blk_far ?_ NB_3.out _; refine bq_ ?_; refine blk_far ?_ NB_3.out _; refine bq_ ?_; refine blk_far ?_ NB_3.out _; refine bq_ ?_; refine blk_far ?_ NB_3.out _; refine bq_ ?_; refine blk_far ?_ NB_3.out _; refine bq_ ?_; refine blk_far ?_ NB_3.out _; refine bq_ ?_; exact BK_1.out⟩
 have n_6 : Aside0 ((((((((((((w_7.setCell ⟨gb_3, 0, none⟩ (.int .u8 t_17)).setCell ⟨gb_3, 1, none⟩ (.int .u64 t_18)).setCell ⟨gb_3, 2, none⟩ (.int .u64 t_19)).setCell ⟨gb_3, 3, none⟩ (.int .u64 t_20)).setCell ⟨gb_3, 4, none⟩ (.int .u64 t_21)).setCell ⟨gb_3, 5, none⟩ (.bool t_22)).setCell ⟨gb_3, 6, none⟩ (.slice Ao_3 t_23.length co_3)).setCell ⟨gb_3, 7, none⟩ (.int .u64 t_24)).setCell ⟨gb_3, 8, none⟩ (.int .u64 t_25)).setCell ⟨gb_3, 9, none⟩ (.slice Ao_4 t_26.length co_4)).setCell ⟨gb_3, 10, none⟩ (.string t_27)).heap[gb_2]? = some (.cells #[.int .u8 t_5, .int .u64 t_6, .int .u64 t_7, .int .u64 t_8, .int .u64 t_9, .bool t_10, .slice Ao_1 t_11.length co_1, .int .u64 t_12, .int .u64 t_13, .slice Ao_2 t_14.length co_2, .string t_15] 37 (0, 0))) := ⟨by refine bq_ ?_; refine blk_far ?_ NB_5.out _; refine bq_ ?_; refine blk_far ?_ NB_5.out _; refine bq_ ?_; refine blk_far ?_ NB_5.out _; refine bq_ ?_; refine blk_far ?_ NB_5.out _; refine bq_ ?_; refine blk_far ?_ NB_5.out _; refine bq_ ?_; refine blk_far ?_ NB_5.out _; refine bq_ ?_; refine blk_far ?_ NB_5.out _; refine bq_ ?_; refine blk_far ?_ NB_5.out _; refine bq_ ?_; refine blk_far ?_ NB_5.out _; refine bq_ ?_; refine blk_far ?_ NB_5.out _; refine bq_ ?_; refine blk_far ?_ NB_5.out _; refine bq_ ?_; exact BK_2.out⟩
 have n_7 : Aside0 ((((((((((((w_7.setCell ⟨gb_3, 0, none⟩ (.int .u8 t_17)).setCell ⟨gb_3, 1, none⟩ (.int .u64 t_18)).setCell ⟨gb_3, 2, none⟩ (.int .u64 t_19)).setCell ⟨gb_3, 3, none⟩ (.int .u64 t_20)).setCell ⟨gb_3, 4, none⟩ (.int .u64 t_21)).setCell ⟨gb_3, 5, none⟩ (.bool t_22)).setCell ⟨gb_3, 6, none⟩ (.slice Ao_3 t_23.length co_3)).setCell ⟨gb_3, 7, none⟩ (.int .u64 t_24)).setCell ⟨gb_3, 8, none⟩ (.int .u64 t_25)).setCell ⟨gb_3, 9, none⟩ (.slice Ao_4 t_26.length co_4)).setCell ⟨gb_3, 10, none⟩ (.string t_27)).heap[gb_3]? = some (.cells #[.int .u8 t_17, .int .u64 t_18, .int .u64 t_19, .int .u64 t_20, .int .u64 t_21, .bool t_22, .slice Ao_3 t_23.length co_3, .int .u64 t_24, .int .u64 t_25, .slice Ao_4 t_26.length co_4, .string t_27] 37 (0, 0))) := ⟨by refine bq_ ?_; refine blk_put (cs := #[.int .u8 t_17, .int .u64 t_18, .int .u64 t_19, .int .u64 t_20, .int .u64 t_21, .bool t_22, .slice Ao_3 t_23.length co_3, .int .u64 t_24, .int .u64 t_25, .slice Ao_4 t_26.length co_4, .string (⟨#[]⟩ : ByteArray)]) ?_ 10 _ rfl; refine bq_ ?_; refine blk_put (cs := #[.int .u8 t_17, .int .u64 t_18, .int .u64 t_19, .int .u64 t_20, .int .u64 t_21, .bool t_22, .slice Ao_3 t_23.length co_3, .int .u64 t_24, .int .u64 t_25, .slice none 0 0, .string (⟨#[]⟩ : ByteArray)]) ?_ 9 _ rfl; refine bq_ ?_; refine blk_put (cs := #[.int .u8 t_17, .int .u64 t_18, .int .u64 t_19, .int .u64 t_20, .int .u64 t_21, .bool t_22, .slice Ao_3 t_23.length co_3, .int .u64 t_24, .int .u64 0, .slice none 0 0, .string (⟨#[]⟩ : ByteArray)]) ?_ 8 _ rfl; refine bq_ ?_; refine blk_put (cs := #[.int .u8 t_17, .int .u64 t_18, .int .u64 t_19, .int .u64 t_20, .int .u64 t_21, .bool t_22, .slice Ao_3 t_23.length co_3, .int .u64 0, .int .u64 0, .slice none 0 0, .string (⟨#[]⟩ : ByteArray)]) ?_ 7 _ rfl; refine bq_ ?_; refine blk_put (cs := #[.int .u8 t_17, .int .u64 t_18, .int .u64 t_19, .int .u64 t_20, .int .u64 t_21, .bool t_22, .slice none 0 0, .int .u64 0, .int .u64 0, .slice none 0 0, .string (⟨#[]⟩ : ByteArray)]) ?_ 6 _ rfl; refine bq_ ?_; refine blk_put (cs := #[.int .u8 t_17, .int .u64 t_18, .int .u64 t_19, .int .u64 t_20, .int .u64 t_21, .bool false, .slice none 0 0, .int .u64 0, .int .u64 0, .slice none 0 0, .string (⟨#[]⟩ : ByteArray)]) ?_ 5 _ rfl; refine bq_ ?_; refine blk_put (cs := #[.int .u8 t_17, .int .u64 t_18, .int .u64 t_19, .int .u64 t_20, .int .u64 0, .bool false, .slice none 0 0, .int .u64 0, .int .u64 0, .slice none 0 0, .string (⟨#[]⟩ : ByteArray)]) ?_ 4 _ rfl; refine bq_ ?_; refine blk_put (cs := #[.int .u8 t_17, .int .u64 t_18, .int .u64 t_19, .int .u64 0, .int .u64 0, .bool false, .slice none 0 0, .int .u64 0, .int .u64 0, .slice none 0 0, .string (⟨#[]⟩ : ByteArray)]) ?_ 3 _ rfl; refine bq_ ?_; refine blk_put (cs := #[.int .u8 t_17, .int .u64 t_18, .int .u64 0, .int .u64 0, .int .u64 0, .bool false, .slice none 0 0, .int .u64 0, .int .u64 0, .slice none 0 0, .string (⟨#[]⟩ : ByteArray)]) ?_ 2 _ rfl; refine bq_ ?_; refine blk_put (cs := #[.int .u8 t_17, .int .u64 0, .int .u64 0, .int .u64 0, .int .u64 0, .bool false, .slice none 0 0, .int .u64 0, .int .u64 0, .slice none 0 0, .string (⟨#[]⟩ : ByteArray)]) ?_ 1 _ rfl; refine bq_ ?_; refine blk_put (cs := #[.int .u8 0, .int .u64 0, .int .u64 0, .int .u64 0, .int .u64 0, .bool false, .slice none 0 0, .int .u64 0, .int .u64 0, .slice none 0 0, .string (⟨#[]⟩ : ByteArray)]) ?_ 0 _ rfl; refine bq_ ?_; exact BK_3.out⟩
 have n_8 : Aside0 (Below w.heap.size w (((((((((((w_7.setCell ⟨gb_3, 0, none⟩ (.int .u8 t_17)).setCell ⟨gb_3, 1, none⟩ (.int .u64 t_18)).setCell ⟨gb_3, 2, none⟩ (.int .u64 t_19)).setCell ⟨gb_3, 3, none⟩ (.int .u64 t_20)).setCell ⟨gb_3, 4, none⟩ (.int .u64 t_21)).setCell ⟨gb_3, 5, none⟩ (.bool t_22)).setCell ⟨gb_3, 6, none⟩ (.slice Ao_3 t_23.length co_3)).setCell ⟨gb_3, 7, none⟩ (.int .u64 t_24)).setCell ⟨gb_3, 8, none⟩ (.int .u64 t_25)).setCell ⟨gb_3, 9, none⟩ (.slice Ao_4 t_26.length co_4)).setCell ⟨gb_3, 10, none⟩ (.string t_27))) := ⟨bl_3 HB GE_1 GE_2 GE_3⟩
 (try clear HO_1)
 (try clear HO_2)
 (try clear HO_3)
 (try clear HO_4)
 (try clear BK_1)
 (try clear BK_2)
 (try clear BK_3)
 (try clear HB)
 generalize (((((((((((w_7.setCell ⟨gb_3, 0, none⟩ (.int .u8 t_17)).setCell ⟨gb_3, 1, none⟩ (.int .u64 t_18)).setCell ⟨gb_3, 2, none⟩ (.int .u64 t_19)).setCell ⟨gb_3, 3, none⟩ (.int .u64 t_20)).setCell ⟨gb_3, 4, none⟩ (.int .u64 t_21)).setCell ⟨gb_3, 5, none⟩ (.bool t_22)).setCell ⟨gb_3, 6, none⟩ (.slice Ao_3 t_23.length co_3)).setCell ⟨gb_3, 7, none⟩ (.int .u64 t_24)).setCell ⟨gb_3, 8, none⟩ (.int .u64 t_25)).setCell ⟨gb_3, 9, none⟩ (.slice Ao_4 t_26.length co_4)).setCell ⟨gb_3, 10, none⟩ (.string t_27)) = w_8 at n_1 n_2 n_3 n_4 n_5 n_6 n_7 n_8 ⊢
 have HO_1 := n_1
 have HO_2 := n_2
 have HO_3 := n_3
 have HO_4 := n_4
 have BK_1 := n_5
 have BK_2 := n_6
 have BK_3 := n_7
 have HB := n_8
 clear n_1 n_2 n_3 n_4 n_5 n_6 n_7 n_8
 replace HO_1 := a_ (Kd.S_drew HO_1.out)
 replace HO_2 := a_ (Kd.R_drew HO_2.out)
 replace HO_3 := a_ (Kd.S_drew HO_3.out)
 replace HO_4 := a_ (Kd.R_drew HO_4.out)
 replace BK_1 := a_ (blk_drew BK_1.out)
 replace BK_2 := a_ (blk_drew BK_2.out)
 replace BK_3 := a_ (blk_drew BK_3.out)
 replace HB := a_ (below_drew1 HB.out)
 refine start_ (n := 29) (S := fun w' => w'.cell? ⟨gb_2, 0, none⟩ = some (.int .u8 t_5) ∧ w'.cell? ⟨gb_2, 1, none⟩ = some (.int .u64 t_6) ∧ w'.cell? ⟨gb_2, 2, none⟩ = some (.int .u64 t_7) ∧ w'.cell? ⟨gb_2, 3, none⟩ = some (.int .u64 t_8) ∧ w'.cell? ⟨gb_2, 4, none⟩ = some (.int .u64 t_9) ∧ w'.cell? ⟨gb_2, 5, none⟩ = some (.bool t_10) ∧ w'.cell? ⟨gb_2, 6, none⟩ = some (.slice Ao_1 t_11.length co_1) ∧ w'.cell? ⟨gb_2, 7, none⟩ = some (.int .u64 t_12) ∧ w'.cell? ⟨gb_2, 8, none⟩ = some (.int .u64 t_13) ∧ w'.cell? ⟨gb_2, 9, none⟩ = some (.slice Ao_2 t_14.length co_2) ∧ w'.cell? ⟨gb_2, 10, none⟩ = some (.string t_15) ∧ w'.cell? ⟨gb_3, 0, none⟩ = some (.int .u8 t_17) ∧ w'.cell? ⟨gb_3, 1, none⟩ = some (.int .u64 t_18) ∧ w'.cell? ⟨gb_3, 2, none⟩ = some (.int .u64 t_19) ∧ w'.cell? ⟨gb_3, 3, none⟩ = some (.int .u64 t_20) ∧ w'.cell? ⟨gb_3, 4, none⟩ = some (.int .u64 t_21) ∧ w'.cell? ⟨gb_3, 5, none⟩ = some (.bool t_22) ∧ w'.cell? ⟨gb_3, 6, none⟩ = some (.slice Ao_3 t_23.length co_3) ∧ w'.cell? ⟨gb_3, 7, none⟩ = some (.int .u64 t_24) ∧ w'.cell? ⟨gb_3, 8, none⟩ = some (.int .u64 t_25) ∧ w'.cell? ⟨gb_3, 9, none⟩ = some (.slice Ao_4 t_26.length co_4) ∧ w'.cell? ⟨gb_3, 10, none⟩ = some (.string t_27) ∧ w'.cell? ⟨gb_1, 0, none⟩ = some (.int .u8 a0_0) ∧ w'.cell? ⟨gb_1, 1, none⟩ = some (.int .u64 a0_1) ∧ w'.cell? ⟨gb_1, 2, none⟩ = some (.int .u64 a0_2) ∧ w'.cell? ⟨gb_1, 3, none⟩ = some (.int .u64 a0_3) ∧ w'.cell? ⟨gb_1, 4, none⟩ = some (.int .u64 a0_4) ∧ w'.cell? ⟨gb_1, 5, none⟩ = some (.bool a0_5) ∧ w'.cell? ⟨gb_1, 6, none⟩ = some (.slice A0_6 l0_6.length c0_6) ∧ w'.cell? ⟨gb_1, 7, none⟩ = some (.int .u64 a0_7) ∧ w'.cell? ⟨gb_1, 8, none⟩ = some (.int .u64 a0_8) ∧ w'.cell? ⟨gb_1, 9, none⟩ = some (.slice A0_9 l0_9.length c0_9) ∧ w'.cell? ⟨gb_1, 10, none⟩ = some (.string a0_10)) (ds := []) #[false, false, false, false, false, false, false, false, false, false, false, false, false, false, false, false, false, false, false, false, false, false, false, false, false, false, false, false, false] (by kernel_rfl) rfl rfl ⟨(blk_cell BK_2.out 0).trans rfl, (blk_cell BK_2.out 1).trans rfl, (blk_cell BK_2.out 2).trans rfl, (blk_cell BK_2.out 3).trans rfl, (blk_cell BK_2.out 4).trans rfl, (blk_cell BK_2.out 5).trans rfl, (blk_cell BK_2.out 6).trans rfl, (blk_cell BK_2.out 7).trans rfl, (blk_cell BK_2.out 8).trans rfl, (blk_cell BK_2.out 9).trans rfl, (blk_cell BK_2.out 10).trans rfl, (blk_cell BK_3.out 0).trans rfl, (blk_cell BK_3.out 1).trans rfl, (blk_cell BK_3.out 2).trans rfl, (blk_cell BK_3.out 3).trans rfl, (blk_cell BK_3.out 4).trans rfl, (blk_cell BK_3.out 5).trans rfl, (blk_cell BK_3.out 6).trans rfl, (blk_cell BK_3.out 7).trans rfl, (blk_cell BK_3.out 8).trans rfl, (blk_cell BK_3.out 9).trans rfl, (blk_cell BK_3.out 10).trans rfl, (blk_cell BK_1.out 0).trans rfl, (blk_cell BK_1.out 1).trans rfl, (blk_cell BK_1.out 2).trans rfl, (blk_cell BK_1.out 3).trans rfl, (blk_cell BK_1.out 4).trans rfl, (blk_cell BK_1.out 5).trans rfl, (blk_cell BK_1.out 6).trans rfl, (blk_cell BK_1.out 7).trans rfl, (blk_cell BK_1.out 8).trans rfl, (blk_cell BK_1.out 9).trans rfl, (blk_cell BK_1.out 10).trans rfl⟩ (fun hHeld => ?_); refine with_tabW gafferlaw13_MsgCodes.tab5 gafferlaw13_MsgCodes.bits5 (fun HT_ HW_ => ?_)
 generalize w_8.drew = w_9 at HO_1 HO_2 HO_3 HO_4 BK_1 BK_2 BK_3 HB hHeld ⊢
 refine on_ HT_ 0 (some 33) (fun K hK => ?_)
 refine goes_ Try.func17 (by kernel_rfl) rfl #[] (by rfl) rfl rfl (ar_) ?_
 with_reducible refine (gafferlaw13_lives.calls k  true _ A_10.out).mono ?_
 rintro e w_10 ⟨rfl, hb⟩
 refine ⟨_, rfl, ?_⟩
 replace HO_1 := a_ (Kd.S_below (by (with_reducible repeat (first | apply Kd.S_alloc | apply Kd.S_drewN | apply Kd.S_drew)); exact HO_1.out) hb)
 replace HO_2 := a_ (Kd.R_below (by refine rq_ ?_; exact HO_2.out) hb)
 replace HO_3 := a_ (Kd.S_below (by (with_reducible repeat (first | apply Kd.S_alloc | apply Kd.S_drewN | apply Kd.S_drew)); exact HO_3.out) hb)
 replace HO_4 := a_ (Kd.R_below (by refine rq_ ?_; exact HO_4.out) hb)
 replace BK_1 := bB_ BK_1 hb
 replace BK_2 := bB_ BK_2 hb
 replace BK_3 := bB_ BK_3 hb
 replace HB := hB_ (bl_3 HB GE_1 GE_2 GE_3) hb
 clear hb
 refine hK.out _ _ ⟨(blk_cell BK_2.out 0).trans rfl, (blk_cell BK_2.out 1).trans rfl, (blk_cell BK_2.out 2).trans rfl, (blk_cell BK_2.out 3).trans rfl, (blk_cell BK_2.out 4).trans rfl, (blk_cell BK_2.out 5).trans rfl, (blk_cell BK_2.out 6).trans rfl, (blk_cell BK_2.out 7).trans rfl, (blk_cell BK_2.out 8).trans rfl, (blk_cell BK_2.out 9).trans rfl, (blk_cell BK_2.out 10).trans rfl, (blk_cell BK_3.out 0).trans rfl, (blk_cell BK_3.out 1).trans rfl, (blk_cell BK_3.out 2).trans rfl, (blk_cell BK_3.out 3).trans rfl, (blk_cell BK_3.out 4).trans rfl, (blk_cell BK_3.out 5).trans rfl, (blk_cell BK_3.out 6).trans rfl, (blk_cell BK_3.out 7).trans rfl, (blk_cell BK_3.out 8).trans rfl, (blk_cell BK_3.out 9).trans rfl, (blk_cell BK_3.out 10).trans rfl, (blk_cell BK_1.out 0).trans rfl, (blk_cell BK_1.out 1).trans rfl, (blk_cell BK_1.out 2).trans rfl, (blk_cell BK_1.out 3).trans rfl, (blk_cell BK_1.out 4).trans rfl, (blk_cell BK_1.out 5).trans rfl, (blk_cell BK_1.out 6).trans rfl, (blk_cell BK_1.out 7).trans rfl, (blk_cell BK_1.out 8).trans rfl, (blk_cell BK_1.out 9).trans rfl, (blk_cell BK_1.out 10).trans rfl⟩ (fun hHeld => ?_)
 clear hK K
 refine nop_ ?_
 refine pu_ HT_ 1 (some 34) ?_
 refine pu_ HT_ 2 (some 35) ?_
 refine pu_ HT_ 3 (some 36) ?_
 refine pu_ HT_ 4 (some 37) ?_
 refine pu_ HT_ 5 (some 38) ?_
 refine pu_ HT_ 6 (some 39) ?_
 refine pu_ HT_ 7 (some 40) ?_
 refine pu_ HT_ 8 (some 41) ?_
 refine pu_ HT_ 9 (some 42) ?_
 refine pu_ HT_ 10 (some 43) ?_
 refine pu_ HT_ 11 (some 44) ?_
 refine ty_ HT_ HW_ 12 (some 45) hHeld ?_
 refine ty_ HT_ HW_ 13 (some 46) hHeld ?_
 refine on_ HT_ 14 (some 47) (fun K hK => ?_)
 refine goes_ Try.func18 (by kernel_rfl) rfl #[.agg #[.int .u8 t_5, .int .u64 t_6, .int .u64 t_7, .int .u64 t_8, .int .u64 t_9, .bool t_10, .slice Ao_1 t_11.length co_1, .int .u64 t_12, .int .u64 t_13, .slice Ao_2 t_14.length co_2, .string t_15], .agg #[.int .u8 t_17, .int .u64 t_18, .int .u64 t_19, .int .u64 t_20, .int .u64 t_21, .bool t_22, .slice Ao_3 t_23.length co_3, .int .u64 t_24, .int .u64 t_25, .slice Ao_4 t_26.length co_4, .string t_27]] (by rfl) rfl rfl (ar_) ?_
 with_reducible refine (gafferref13_Same.calls k t_5 t_6 t_7 t_8 t_9 t_10 _ _ t_11 t_12 t_13 _ _ t_14 t_15 t_17 t_18 t_19 t_20 t_21 t_22 _ _ t_23 t_24 t_25 _ _ t_26 t_27 true _ ?side1 ?side2 ?side3 ?side4 ?side5 ?side6 ?side7 ?side8 A_12.out).mono ?_
 (case side1 => exact cl_ ((Kd.S_reads' HO_1.out).2.2))
 (case side2 => exact (Kd.S_reads' HO_1.out).2.1)
 (case side3 => exact cl_ ((Kd.R_reads' HO_2.out).2.2))
 (case side4 => exact (Kd.R_reads' HO_2.out).2.1)
 (case side5 => exact cl_ ((Kd.S_reads' HO_3.out).2.2))
 (case side6 => exact (Kd.S_reads' HO_3.out).2.1)
 (case side7 => exact cl_ ((Kd.R_reads' HO_4.out).2.2))
 (case side8 => exact (Kd.R_reads' HO_4.out).2.1)
 rintro e w_11 ⟨rfl, hb⟩
 refine ⟨_, rfl, ?_⟩
 replace HO_1 := a_ (Kd.S_below (by (with_reducible repeat (first | apply Kd.S_alloc | apply Kd.S_drewN | apply Kd.S_drew)); exact HO_1.out) hb)
 replace HO_2 := a_ (Kd.R_below (by refine rq_ ?_; exact HO_2.out) hb)
 replace HO_3 := a_ (Kd.S_below (by (with_reducible repeat (first | apply Kd.S_alloc | apply Kd.S_drewN | apply Kd.S_drew)); exact HO_3.out) hb)
 replace HO_4 := a_ (Kd.R_below (by refine rq_ ?_; exact HO_4.out) hb)
 replace BK_1 := bB_ BK_1 hb
 replace BK_2 := bB_ BK_2 hb
 replace BK_3 := bB_ BK_3 hb
 replace HB := hB_ (bl_3 HB GE_1 GE_2 GE_3) hb
 clear hb
 refine hK.out _ _ ⟨(blk_cell BK_2.out 0).trans rfl, (blk_cell BK_2.out 1).trans rfl, (blk_cell BK_2.out 2).trans rfl, (blk_cell BK_2.out 3).trans rfl, (blk_cell BK_2.out 4).trans rfl, (blk_cell BK_2.out 5).trans rfl, (blk_cell BK_2.out 6).trans rfl, (blk_cell BK_2.out 7).trans rfl, (blk_cell BK_2.out 8).trans rfl, (blk_cell BK_2.out 9).trans rfl, (blk_cell BK_2.out 10).trans rfl, (blk_cell BK_3.out 0).trans rfl, (blk_cell BK_3.out 1).trans rfl, (blk_cell BK_3.out 2).trans rfl, (blk_cell BK_3.out 3).trans rfl, (blk_cell BK_3.out 4).trans rfl, (blk_cell BK_3.out 5).trans rfl, (blk_cell BK_3.out 6).trans rfl, (blk_cell BK_3.out 7).trans rfl, (blk_cell BK_3.out 8).trans rfl, (blk_cell BK_3.out 9).trans rfl, (blk_cell BK_3.out 10).trans rfl, (blk_cell BK_1.out 0).trans rfl, (blk_cell BK_1.out 1).trans rfl, (blk_cell BK_1.out 2).trans rfl, (blk_cell BK_1.out 3).trans rfl, (blk_cell BK_1.out 4).trans rfl, (blk_cell BK_1.out 5).trans rfl, (blk_cell BK_1.out 6).trans rfl, (blk_cell BK_1.out 7).trans rfl, (blk_cell BK_1.out 8).trans rfl, (blk_cell BK_1.out 9).trans rfl, (blk_cell BK_1.out 10).trans rfl⟩ (fun hHeld => ?_)
 clear hK K
 refine nop_ ?_
 refine pu_ HT_ 15 (some 48) ?_
 refine pu_ HT_ 16 (some 49) ?_
 refine pu_ HT_ 17 (some 50) ?_
 refine pu_ HT_ 18 (some 51) ?_
 refine pu_ HT_ 19 (some 52) ?_
 refine pu_ HT_ 20 (some 53) ?_
 refine pu_ HT_ 21 (some 54) ?_
 refine ty_ HT_ HW_ 22 (some 55) hHeld ?_
 refine ty_ HT_ HW_ 24 (some 57) hHeld ?_
 refine on_ HT_ 23 (some 56) (fun K hK => ?_)
 refine goes_ Try.func19 (by kernel_rfl) rfl #[.agg #[.int .u8 a0_0, .int .u64 a0_1, .int .u64 a0_2, .int .u64 a0_3, .int .u64 a0_4, .bool a0_5, .slice A0_6 l0_6.length c0_6, .int .u64 a0_7, .int .u64 a0_8, .slice A0_9 l0_9.length c0_9, .string a0_10]] (by rfl) rfl rfl (ar_) ?_
 with_reducible refine (msg_Check.calls k a0_0 a0_1 a0_2 a0_3 a0_4 a0_5 _ _ l0_6 a0_7 a0_8 _ _ l0_9 a0_10 t_31 _ ?side1 ?side2 ?side3 ?side4 A_14.out).mono ?_
 (case side1 => exact cl_ (Kd.C_below HR_1.out HB.out))
 (case side2 => exact HC_1.out)
 (case side3 => exact cl_ (Kd.C_below HR_2.out HB.out))
 (case side4 => exact HC_2.out)
 rintro e w_12 ⟨rfl, hb⟩
 refine ⟨_, rfl, ?_⟩
 replace HO_1 := a_ (Kd.S_below (by (with_reducible repeat (first | apply Kd.S_alloc | apply Kd.S_drewN | apply Kd.S_drew)); exact HO_1.out) hb)
 replace HO_2 := a_ (Kd.R_below (by refine rq_ ?_; exact HO_2.out) hb)
 replace HO_3 := a_ (Kd.S_below (by (with_reducible repeat (first | apply Kd.S_alloc | apply Kd.S_drewN | apply Kd.S_drew)); exact HO_3.out) hb)
 replace HO_4 := a_ (Kd.R_below (by refine rq_ ?_; exact HO_4.out) hb)
 replace BK_1 := bB_ BK_1 hb
 replace BK_2 := bB_ BK_2 hb
 replace BK_3 := bB_ BK_3 hb
 replace HB := hB_ (bl_3 HB GE_1 GE_2 GE_3) hb
 clear hb
 refine hK.out _ _ ⟨(blk_cell BK_2.out 0).trans rfl, (blk_cell BK_2.out 1).trans rfl, (blk_cell BK_2.out 2).trans rfl, (blk_cell BK_2.out 3).trans rfl, (blk_cell BK_2.out 4).trans rfl, (blk_cell BK_2.out 5).trans rfl, (blk_cell BK_2.out 6).trans rfl, (blk_cell BK_2.out 7).trans rfl, (blk_cell BK_2.out 8).trans rfl, (blk_cell BK_2.out 9).trans rfl, (blk_cell BK_2.out 10).trans rfl, (blk_cell BK_3.out 0).trans rfl, (blk_cell BK_3.out 1).trans rfl, (blk_cell BK_3.out 2).trans rfl, (blk_cell BK_3.out 3).trans rfl, (blk_cell BK_3.out 4).trans rfl, (blk_cell BK_3.out 5).trans rfl, (blk_cell BK_3.out 6).trans rfl, (blk_cell BK_3.out 7).trans rfl, (blk_cell BK_3.out 8).trans rfl, (blk_cell BK_3.out 9).trans rfl, (blk_cell BK_3.out 10).trans rfl, (blk_cell BK_1.out 0).trans rfl, (blk_cell BK_1.out 1).trans rfl, (blk_cell BK_1.out 2).trans rfl, (blk_cell BK_1.out 3).trans rfl, (blk_cell BK_1.out 4).trans rfl, (blk_cell BK_1.out 5).trans rfl, (blk_cell BK_1.out 6).trans rfl, (blk_cell BK_1.out 7).trans rfl, (blk_cell BK_1.out 8).trans rfl, (blk_cell BK_1.out 9).trans rfl, (blk_cell BK_1.out 10).trans rfl⟩ (fun hHeld => ?_)
 clear hK K
 refine nop_ ?_
 refine on_ HT_ 25 (some 58) (fun K hK => ?_)
 refine goes_ Try.func20 (by kernel_rfl) rfl #[.agg #[.int .u8 a0_0, .int .u64 a0_1, .int .u64 a0_2, .int .u64 a0_3, .int .u64 a0_4, .bool a0_5, .slice A0_6 l0_6.length c0_6, .int .u64 a0_7, .int .u64 a0_8, .slice A0_9 l0_9.length c0_9, .string a0_10]] (by rfl) rfl rfl (ar_) ?_
 with_reducible refine (gafferref13_Check.calls k a0_0 a0_1 a0_2 a0_3 a0_4 a0_5 _ _ l0_6 a0_7 a0_8 _ _ l0_9 a0_10 t_32 _ ?side1 ?side2 ?side3 ?side4 A_16.out).mono ?_
 (case side1 => exact cl_ (Kd.C_below HR_1.out HB.out))
 (case side2 => exact HC_1.out)
 (case side3 => exact cl_ (Kd.C_below HR_2.out HB.out))
 (case side4 => exact HC_2.out)
 rintro e w_13 ⟨rfl, hb⟩
 refine ⟨_, rfl, ?_⟩
 replace HO_1 := a_ (Kd.S_below (by (with_reducible repeat (first | apply Kd.S_alloc | apply Kd.S_drewN | apply Kd.S_drew)); exact HO_1.out) hb)
 replace HO_2 := a_ (Kd.R_below (by refine rq_ ?_; exact HO_2.out) hb)
 replace HO_3 := a_ (Kd.S_below (by (with_reducible repeat (first | apply Kd.S_alloc | apply Kd.S_drewN | apply Kd.S_drew)); exact HO_3.out) hb)
 replace HO_4 := a_ (Kd.R_below (by refine rq_ ?_; exact HO_4.out) hb)
 replace BK_1 := bB_ BK_1 hb
 replace BK_2 := bB_ BK_2 hb
 replace BK_3 := bB_ BK_3 hb
 replace HB := hB_ (bl_3 HB GE_1 GE_2 GE_3) hb
 clear hb
 refine hK.out _ _ ⟨(blk_cell BK_2.out 0).trans rfl, (blk_cell BK_2.out 1).trans rfl, (blk_cell BK_2.out 2).trans rfl, (blk_cell BK_2.out 3).trans rfl, (blk_cell BK_2.out 4).trans rfl, (blk_cell BK_2.out 5).trans rfl, (blk_cell BK_2.out 6).trans rfl, (blk_cell BK_2.out 7).trans rfl, (blk_cell BK_2.out 8).trans rfl, (blk_cell BK_2.out 9).trans rfl, (blk_cell BK_2.out 10).trans rfl, (blk_cell BK_3.out 0).trans rfl, (blk_cell BK_3.out 1).trans rfl, (blk_cell BK_3.out 2).trans rfl, (blk_cell BK_3.out 3).trans rfl, (blk_cell BK_3.out 4).trans rfl, (blk_cell BK_3.out 5).trans rfl, (blk_cell BK_3.out 6).trans rfl, (blk_cell BK_3.out 7).trans rfl, (blk_cell BK_3.out 8).trans rfl, (blk_cell BK_3.out 9).trans rfl, (blk_cell BK_3.out 10).trans rfl, (blk_cell BK_1.out 0).trans rfl, (blk_cell BK_1.out 1).trans rfl, (blk_cell BK_1.out 2).trans rfl, (blk_cell BK_1.out 3).trans rfl, (blk_cell BK_1.out 4).trans rfl, (blk_cell BK_1.out 5).trans rfl, (blk_cell BK_1.out 6).trans rfl, (blk_cell BK_1.out 7).trans rfl, (blk_cell BK_1.out 8).trans rfl, (blk_cell BK_1.out 9).trans rfl, (blk_cell BK_1.out 10).trans rfl⟩ (fun hHeld => ?_)
 clear hK K
 refine nop_ ?_
 refine pu_ HT_ 26 (some 59) ?_
 refine pu_ HT_ 27 (some 60) ?_
 refine pu_ HT_ 28 (some 4) ?_
 refine done_ (done_of HT_.out (by kernel_rfl)) ?_
 try go_wp2
 go_ret
 exact ⟨fz_, bl_3 HB GE_1 GE_2 GE_3⟩

/-- THE ONE PURE STATEMENT of gafferlaw13_MsgCodes: yours. -/
def gafferlaw13_MsgCodes.Pure : Prop := ∀ (x0 : S37) (x1 : ByteArray), ok37 x0 → okStr x1 → ∃ k, gafferlaw13_MsgCodes.f k x0.f0 x0.f1 x0.f2 x0.f3 x0.f4 x0.f5 x0.f6 x0.f7.f0 x0.f7.f1 x0.f7.f2 x0.f7.f3 x1 = some true

end Go.Proofs.Ytcdibodjkdoknaa.PM
