-- By a program of this session.
import Derived.Test.YtcdibodjkdoknaaPMx0
import Derived.Test.YtcdibodjkdoknaaPMx8
import Derived.Test.YtcdibodjkdoknaaPMx9
namespace Go.Proofs.Ytcdibodjkdoknaa.PM
open Go.RowKit YtcdibodjkdoknaaW.PrintWords YtcdibodjkdoknaaW.PrintLast YtcdibodjkdoknaaW.PrintMore Sh Ytcdibodjkdoknaa.Op
attribute [local go_sem] max2_int min2_int max_two min_two max_three min_three max_four min_four
set_option linter.unusedVariables false
set_option maxHeartbeats 80000000
set_option maxRecDepth 100000
set_option linter.unusedSimpArgs false

def gafferref13_Bytes.l0 : Nat → ByteArray → List (S67) → Int → Int → Option (ByteArray)
 | 0, _, _, _, _ => none
 | k + 1, x3, x62, x63, x64 => if x64 < x63 then (if 0 ≤ x64 then (if x64 < (x62.length : Int) then ((gafferref03_Bytes.f k ((rd_T67 x62 x64).f0) ((rd_T67 x62 x64).f1) ((rd_T67 x62 x64).f2) ((rd_T67 x62 x64).f3) ((rd_T67 x62 x64).f4)).bind fun t203 => ((gafferref01_Text.f k t203).bind fun t204 => (if x3.size + t204.size ≤ 9223372036854775807 then (gafferref13_Bytes.l0 k (x3 ++ t204) x62 x63 (wrap64 (x64 + 1))) else (none)))) else (none)) else (none)) else (some x3)
def gafferref13_Bytes.f (k : Nat) (a0_0 : Int) (a0_1 : Int) (a0_2 : Int) (a0_3 : Int) (a0_4 : Int) (a0_5 : Bool) (l0_6 : List (S67)) (a0_7 : Int) (a0_8 : Int) (l0_9 : List Int) (a0_10 : ByteArray) : Option (ByteArray) := (gafferref01_Number.f k (IntKind.u64.wrap (a0_0))).bind fun t192 => ((gafferref01_Number.f k a0_1).bind fun t193 => (if t192.size + t193.size ≤ 9223372036854775807 then (if a0_0 = 1 then ((gafferref01_Number.f k a0_2).bind fun t194 => ((gafferref01_Number.f k a0_3).bind fun t195 => (if t194.size + t195.size ≤ 9223372036854775807 then (if (t192 ++ t193).size + (t194 ++ t195).size ≤ 9223372036854775807 then (some ((t192 ++ t193) ++ (t194 ++ t195))) else (none)) else (none)))) else (if a0_0 = 2 then ((gafferref13_flag.f k a0_5).bind fun t196 => (if (t192 ++ t193).size + t196.size ≤ 9223372036854775807 then (some ((t192 ++ t193) ++ t196)) else (none))) else (if a0_0 = 3 then ((gafferref01_Number.f k a0_2).bind fun t197 => ((gafferref01_Number.f k a0_3).bind fun t198 => (if t197.size + t198.size ≤ 9223372036854775807 then ((gafferref01_Number.f k a0_4).bind fun t199 => (if (t197 ++ t198).size + t199.size ≤ 9223372036854775807 then ((gafferref01_Number.f k (IntKind.u64.wrap ((l0_6.length : Int)))).bind fun t200 => (if ((t197 ++ t198) ++ t199).size + t200.size ≤ 9223372036854775807 then (if (t192 ++ t193).size + (((t197 ++ t198) ++ t199) ++ t200).size ≤ 9223372036854775807 then (gafferref13_Bytes.l0 k ((t192 ++ t193) ++ (((t197 ++ t198) ++ t199) ++ t200)) l0_6 (l0_6.length : Int) 0) else (none)) else (none))) else (none))) else (none)))) else (if a0_0 = 4 then ((gafferref13_flag.f k a0_5).bind fun t205 => ((gafferref01_Number.f k a0_2).bind fun t206 => (if t205.size + t206.size ≤ 9223372036854775807 then (if (t192 ++ t193).size + (t205 ++ t206).size ≤ 9223372036854775807 then (some ((t192 ++ t193) ++ (t205 ++ t206))) else (none)) else (none)))) else ((gafferref05_Bytes.f k a0_7 a0_8 l0_9 a0_10).bind fun t207 => ((gafferref01_Text.f k t207).bind fun t208 => (if (t192 ++ t193).size + t208.size ≤ 9223372036854775807 then (some ((t192 ++ t193) ++ t208)) else (none)))))))) else (none)))
theorem gafferref13_Bytes.mono_l : ∀ k, (∀ y0 y1 y2 y3, LeO (gafferref13_Bytes.l0 k y0 y1 y2 y3) (gafferref13_Bytes.l0 (k + 1) y0 y1 y2 y3))
 | 0 => fun _ _ _ _ r h => by simp [gafferref13_Bytes.l0] at h
 | k + 1 => by
  have ih0 := gafferref13_Bytes.mono_l k
  ·intro y0 y1 y2 y3
   unfold gafferref13_Bytes.l0
   repeat' with_reducible first | apply ih0 | apply gafferref01_Number.mono | apply gafferref01_Text.mono | apply gafferref03_Bytes.mono | apply gafferref05_Bytes.mono | apply gafferref13_flag.mono | apply LeO.refl | apply LeO.none | apply LeO.ite | refine LeO.bind ?_ (fun _ => ?_)
theorem gafferref13_Bytes.mono : ∀ a0 a1 a2 a3 a4 a5 a6 a7 a8 a9 a10 k, LeO (gafferref13_Bytes.f k a0 a1 a2 a3 a4 a5 a6 a7 a8 a9 a10) (gafferref13_Bytes.f (k + 1) a0 a1 a2 a3 a4 a5 a6 a7 a8 a9 a10) := by
 intro a0 a1 a2 a3 a4 a5 a6 a7 a8 a9 a10 k
 have ih0 := gafferref13_Bytes.mono_l k
 unfold gafferref13_Bytes.f
 repeat' with_reducible first | apply ih0 | apply gafferref01_Number.mono | apply gafferref01_Text.mono | apply gafferref03_Bytes.mono | apply gafferref05_Bytes.mono | apply gafferref13_flag.mono | apply LeO.refl | apply LeO.none | apply LeO.ite | refine LeO.bind ?_ (fun _ => ?_)
def gafferref13_Bytes.T1 : Bool × List (List Nat × List Nat) := (true, [([], []), ([0], [0]), ([1], [1]), ([2], [2]), ([], []), ([4], [4]), ([5, 3], [5]), ([3, 6], [3, 6]), ([7, 6, 0, 1, 2, 3, 4, 5, 6, 7], [7])])
def gafferref13_Bytes.B1 : List Nat := [0, 1, 3, 7, 0, 16, 63, 127, 255]
theorem gafferref13_Bytes.tab1 : rtab .any (opsOf Try.f26 1) = gafferref13_Bytes.T1 := by kernel_rfl
theorem gafferref13_Bytes.bits1 : waitsOk gafferref13_Bytes.T1.2 gafferref13_Bytes.B1 = true := by kernel_rfl
def gafferref13_Bytes.T5 : Bool × List (List Nat × List Nat) := (true, [([], []), ([], []), ([1], [1]), ([2], [2]), ([], []), ([4], [4]), ([5, 3], [5]), ([3, 6], [3, 6]), ([0, 7], [0, 7]), ([8, 6, 0, 1, 2, 3, 4, 5, 6, 7, 8], [0, 8])])
def gafferref13_Bytes.B5 : List Nat := [0, 0, 2, 6, 0, 16, 62, 126, 255, 511]
theorem gafferref13_Bytes.tab5 : rtab .any (opsOf Try.f26 5) = gafferref13_Bytes.T5 := by kernel_rfl
theorem gafferref13_Bytes.bits5 : waitsOk gafferref13_Bytes.T5.2 gafferref13_Bytes.B5 = true := by kernel_rfl
def gafferref13_Bytes.T9 : Bool × List (List Nat × List Nat) := (true, [([], []), ([], []), ([1], [1]), ([2], [2]), ([], []), ([4], [4]), ([5, 3], [5]), ([3, 6], [3, 6]), ([], []), ([8], [8]), ([9, 6], [9]), ([7, 10], [7, 10]), ([], []), ([12], [12]), ([13], [13]), ([14], [14]), ([15, 10], [15]), ([11, 16], [11, 16]), ([0, 17], [0, 17]), ([18, 16, 0, 1, 2, 3, 4, 5, 6, 7, 8, 9, 10, 11, 12, 13, 14, 15, 16, 17, 18], [0, 18])])
def gafferref13_Bytes.B9 : List Nat := [0, 0, 2, 6, 0, 16, 62, 126, 0, 256, 894, 2046, 0, 4096, 12288, 28672, 63358, 131070, 262143, 524287]
theorem gafferref13_Bytes.tab9 : rtab .any (opsOf Try.f26 9) = gafferref13_Bytes.T9 := by kernel_rfl
theorem gafferref13_Bytes.bits9 : waitsOk gafferref13_Bytes.T9.2 gafferref13_Bytes.B9 = true := by kernel_rfl
def gafferref13_Bytes.T16 : Bool × List (List Nat × List Nat) := (true, [([], []), ([], []), ([1], [1]), ([2], [2]), ([], []), ([4], [4]), ([5, 3], [5]), ([3, 6], [3, 6]), ([0, 7], [0, 7]), ([8, 6, 0, 1, 2, 3, 4, 5, 6, 7, 8], [0, 8])])
def gafferref13_Bytes.B16 : List Nat := [0, 0, 2, 6, 0, 16, 62, 126, 255, 511]
theorem gafferref13_Bytes.tab16 : rtab .any (opsOf Try.f26 16) = gafferref13_Bytes.T16 := by kernel_rfl
theorem gafferref13_Bytes.bits16 : waitsOk gafferref13_Bytes.T16.2 gafferref13_Bytes.B16 = true := by kernel_rfl
theorem gafferref13_Bytes.calls (k : Nat) (a0_0 : Int) (a0_1 : Int) (a0_2 : Int) (a0_3 : Int) (a0_4 : Int) (a0_5 : Bool) (A0_6 : Option Addr) (c0_6 : Nat) (l0_6 : List (S67)) (a0_7 : Int) (a0_8 : Int) (A0_9 : Option Addr) (c0_9 : Nat) (l0_9 : List Int) (a0_10 : ByteArray) (r : ByteArray) (w : World) (hr0_6 : Kd.C k67 w A0_6 l0_6.length l0_6) (hc0_6 : l0_6.length ≤ c0_6) (hr0_9 : Kd.C (Kd.int .i64) w A0_9 l0_9.length l0_9) (hc0_9 : l0_9.length ≤ c0_9) (h : gafferref13_Bytes.f k a0_0 a0_1 a0_2 a0_3 a0_4 a0_5 l0_6 a0_7 a0_8 l0_9 a0_10 = some r) :
  Calls Try.prog 26 #[.agg #[.int .u8 a0_0, .int .u64 a0_1, .int .u64 a0_2, .int .u64 a0_3, .int .u64 a0_4, .bool a0_5, .slice A0_6 l0_6.length c0_6, .int .u64 a0_7, .int .u64 a0_8, .slice A0_9 l0_9.length c0_9, .string a0_10]] w fun e w' => e = .returned (.string r) ∧ Below w.heap.size w w' := by
 have hu_1 := Try.underlying37
 have hu_2 := Try.underlying67
 have hu_3 := Try.underlying35
 have HR_1 := a_ hr0_6
 have HC_1 := a_ hc0_6
 clear hr0_6 hc0_6
 have HR_2 := a_ hr0_9
 have HC_2 := a_ hc0_9
 clear hr0_9 hc0_9
 have HB := a_ (Below.refl w.heap.size w)
 have H := h
 unfold gafferref13_Bytes.f at H
 clear h
 obtain ⟨t_1, A_1, H⟩ := Option.bind_eq_some_iff.mp H
 try dsimp only at H
 have A_2 := a_ A_1
 clear A_1
 obtain ⟨t_2, A_3, H⟩ := Option.bind_eq_some_iff.mp H
 try dsimp only at H
 have A_4 := a_ A_3
 clear A_3
 by_cases c_1 : t_1.size + t_2.size ≤ 9223372036854775807
 rotate_left
 ·rw [if_neg c_1] at H
  exact absurd H (by simp)
 rw [if_pos c_1] at H
 have c_2 := eq_true c_1
 have c_3 : decide (t_1.size + t_2.size ≤ 9223372036854775807) = true := decide_eq_true c_1
 try have c_4 : (9223372036854775807 < t_1.size + t_2.size) = False := eq_false (Nat.not_lt.2 c_1)
 clear c_1
 go_enter Try.func26, Try.ntmps26
 try go_wp2_with (first | ((with_reducible refine gd_ 1 ?_); refine bx_ 1 #[.int .u8 a0_0, .int .u64 a0_1, .int .u64 a0_2, .int .u64 a0_3, .int .u64 a0_4, .bool a0_5, .slice A0_6 l0_6.length c0_6, .int .u64 a0_7, .int .u64 a0_8, .slice A0_9 l0_9.length c0_9, .string a0_10] 37 ?_; intro gb_1 hg w_1 hbox hb; have BK_1 := a_ (hbox); have GE_1 := a_ (bs_0 hg HB); replace HB := hB_ (bl_ HB) hb; clear hb hbox hg))
 replace BK_1 := a_ (blk_drew BK_1.out)
 replace HB := a_ (below_drew1 HB.out)
 refine start_ (n := 9) (S := fun w' => w'.cell? ⟨gb_1, 0, none⟩ = some (.int .u8 a0_0) ∧ w'.cell? ⟨gb_1, 1, none⟩ = some (.int .u64 a0_1) ∧ w'.cell? ⟨gb_1, 2, none⟩ = some (.int .u64 a0_2) ∧ w'.cell? ⟨gb_1, 3, none⟩ = some (.int .u64 a0_3) ∧ w'.cell? ⟨gb_1, 4, none⟩ = some (.int .u64 a0_4) ∧ w'.cell? ⟨gb_1, 5, none⟩ = some (.bool a0_5) ∧ w'.cell? ⟨gb_1, 6, none⟩ = some (.slice A0_6 l0_6.length c0_6) ∧ w'.cell? ⟨gb_1, 7, none⟩ = some (.int .u64 a0_7) ∧ w'.cell? ⟨gb_1, 8, none⟩ = some (.int .u64 a0_8) ∧ w'.cell? ⟨gb_1, 9, none⟩ = some (.slice A0_9 l0_9.length c0_9) ∧ w'.cell? ⟨gb_1, 10, none⟩ = some (.string a0_10)) (ds := []) #[false, false, false, false, false, false, false, false, false] (by kernel_rfl) rfl rfl ⟨(blk_cell BK_1.out 0).trans rfl, (blk_cell BK_1.out 1).trans rfl, (blk_cell BK_1.out 2).trans rfl, (blk_cell BK_1.out 3).trans rfl, (blk_cell BK_1.out 4).trans rfl, (blk_cell BK_1.out 5).trans rfl, (blk_cell BK_1.out 6).trans rfl, (blk_cell BK_1.out 7).trans rfl, (blk_cell BK_1.out 8).trans rfl, (blk_cell BK_1.out 9).trans rfl, (blk_cell BK_1.out 10).trans rfl⟩ (fun hHeld => ?_); refine with_tabW gafferref13_Bytes.tab1 gafferref13_Bytes.bits1 (fun HT_ HW_ => ?_)
 generalize w_1.drew = w_2 at BK_1 HB hHeld ⊢
 refine py_ HT_ 0 (some 6) ?_
 refine py_ HT_ 4 (some 10) ?_
 refine ty_ HT_ HW_ 1 (some 7) hHeld ?_
 refine py_ HT_ 2 (some 8) ?_
 refine ty_ HT_ HW_ 5 (some 11) hHeld ?_
 refine on_ HT_ 3 (some 9) (fun K hK => ?_)
 refine goes_ Try.func48 (by kernel_rfl) rfl #[.int .u64 (IntKind.u64.wrap (a0_0))] (by rfl) rfl rfl (ar_) ?_
 with_reducible refine (gafferref01_Number.calls k (IntKind.u64.wrap (a0_0)) t_1 _ A_2.out).mono ?_
 rintro e w_3 ⟨rfl, hb⟩
 refine ⟨_, rfl, ?_⟩
 replace BK_1 := bB_ BK_1 hb
 replace HB := hB_ (bl_1 HB GE_1) hb
 clear hb
 refine hK.out _ _ ⟨(blk_cell BK_1.out 0).trans rfl, (blk_cell BK_1.out 1).trans rfl, (blk_cell BK_1.out 2).trans rfl, (blk_cell BK_1.out 3).trans rfl, (blk_cell BK_1.out 4).trans rfl, (blk_cell BK_1.out 5).trans rfl, (blk_cell BK_1.out 6).trans rfl, (blk_cell BK_1.out 7).trans rfl, (blk_cell BK_1.out 8).trans rfl, (blk_cell BK_1.out 9).trans rfl, (blk_cell BK_1.out 10).trans rfl⟩ (fun hHeld => ?_)
 clear hK K
 refine nop_ ?_
 refine on_ HT_ 6 (some 12) (fun K hK => ?_)
 refine goes_ Try.func48 (by kernel_rfl) rfl #[.int .u64 a0_1] (by rfl) rfl rfl (ar_) ?_
 with_reducible refine (gafferref01_Number.calls k a0_1 t_2 _ A_4.out).mono ?_
 rintro e w_4 ⟨rfl, hb⟩
 refine ⟨_, rfl, ?_⟩
 replace BK_1 := bB_ BK_1 hb
 replace HB := hB_ (bl_1 HB GE_1) hb
 clear hb
 refine hK.out _ _ ⟨(blk_cell BK_1.out 0).trans rfl, (blk_cell BK_1.out 1).trans rfl, (blk_cell BK_1.out 2).trans rfl, (blk_cell BK_1.out 3).trans rfl, (blk_cell BK_1.out 4).trans rfl, (blk_cell BK_1.out 5).trans rfl, (blk_cell BK_1.out 6).trans rfl, (blk_cell BK_1.out 7).trans rfl, (blk_cell BK_1.out 8).trans rfl, (blk_cell BK_1.out 9).trans rfl, (blk_cell BK_1.out 10).trans rfl⟩ (fun hHeld => ?_)
 clear hK K
 refine nop_ ?_
 refine py_ HT_ 7 (some 13) ?_
 refine py_ HT_ 8 (some 3) ?_
 refine done_ (done_of HT_.out (by kernel_rfl)) ?_
 obtain ⟨_, _, _, _, _, _, _, _, _, _, _, _, _, _, _, _, _, _, _, _, _, _⟩ := c11_ BK_1
 by_cases c_5 : a0_0 = 1
 focus
  rw [if_pos c_5] at H
  have c_6 : (a0_0 == 1) = true := beq_iff_eq.mpr c_5
  have c_7 : (a0_0 != 1) = false := bne_eq_false_iff_eq.mpr c_5
  clear c_5
  obtain ⟨t_3, A_5, H⟩ := Option.bind_eq_some_iff.mp H
  try dsimp only at H
  have A_6 := a_ A_5
  clear A_5
  obtain ⟨t_4, A_7, H⟩ := Option.bind_eq_some_iff.mp H
  try dsimp only at H
  have A_8 := a_ A_7
  clear A_7
  by_cases c_8 : t_3.size + t_4.size ≤ 9223372036854775807
  rotate_left
  ·rw [if_neg c_8] at H
   exact absurd H (by simp)
  rw [if_pos c_8] at H
  have c_9 := eq_true c_8
  have c_10 : decide (t_3.size + t_4.size ≤ 9223372036854775807) = true := decide_eq_true c_8
  try have c_11 : (9223372036854775807 < t_3.size + t_4.size) = False := eq_false (Nat.not_lt.2 c_8)
  clear c_8
  by_cases c_12 : (t_1 ++ t_2).size + (t_3 ++ t_4).size ≤ 9223372036854775807
  rotate_left
  ·rw [if_neg c_12] at H
   exact absurd H (by simp)
  rw [if_pos c_12] at H
  have c_13 := eq_true c_12
  have c_14 : decide ((t_1 ++ t_2).size + (t_3 ++ t_4).size ≤ 9223372036854775807) = true := decide_eq_true c_12
  try have c_15 : (9223372036854775807 < (t_1 ++ t_2).size + (t_3 ++ t_4).size) = False := eq_false (Nat.not_lt.2 c_12)
  clear c_12
  obtain rfl := Option.some.inj H
  (try (have c_16 := c_13; simp only [ByteArray.size_extract, ByteArray.size_append, Nat.min_self, Nat.sub_zero] at c_16))
  (try (have c_17 := c_14; simp only [ByteArray.size_extract, ByteArray.size_append, Nat.min_self, Nat.sub_zero] at c_17))
  (try (have c_18 := c_15; simp only [ByteArray.size_extract, ByteArray.size_append, Nat.min_self, Nat.sub_zero] at c_18))
  have L0_ := trivial
 rotate_left
 focus
  rw [if_neg c_5] at H
  have c_6 : (a0_0 == 1) = false := beq_eq_false_iff_ne.mpr c_5
  have c_7 : (a0_0 != 1) = true := bne_iff_ne.mpr c_5
  by_cases c_8 : a0_0 = 2
  focus
   rw [if_pos c_8] at H
   have c_9 : (a0_0 == 2) = true := beq_iff_eq.mpr c_8
   have c_10 : (a0_0 != 2) = false := bne_eq_false_iff_eq.mpr c_8
   clear c_8
   obtain ⟨t_3, A_5, H⟩ := Option.bind_eq_some_iff.mp H
   try dsimp only at H
   have A_6 := a_ A_5
   clear A_5
   by_cases c_11 : (t_1 ++ t_2).size + t_3.size ≤ 9223372036854775807
   rotate_left
   ·rw [if_neg c_11] at H
    exact absurd H (by simp)
   rw [if_pos c_11] at H
   have c_12 := eq_true c_11
   have c_13 : decide ((t_1 ++ t_2).size + t_3.size ≤ 9223372036854775807) = true := decide_eq_true c_11
   try have c_14 : (9223372036854775807 < (t_1 ++ t_2).size + t_3.size) = False := eq_false (Nat.not_lt.2 c_11)
   clear c_11
   obtain rfl := Option.some.inj H
   (try (have c_15 := c_12; simp only [ByteArray.size_extract, ByteArray.size_append, Nat.min_self, Nat.sub_zero] at c_15))
   (try (have c_16 := c_13; simp only [ByteArray.size_extract, ByteArray.size_append, Nat.min_self, Nat.sub_zero] at c_16))
   (try (have c_17 := c_14; simp only [ByteArray.size_extract, ByteArray.size_append, Nat.min_self, Nat.sub_zero] at c_17))
   have L1_ := trivial
  rotate_left
  focus
   rw [if_neg c_8] at H
   have c_9 : (a0_0 == 2) = false := beq_eq_false_iff_ne.mpr c_8
   have c_10 : (a0_0 != 2) = true := bne_iff_ne.mpr c_8
   by_cases c_11 : a0_0 = 3
   rotate_left
   focus
    rw [if_neg c_11] at H
    have c_12 : (a0_0 == 3) = false := beq_eq_false_iff_ne.mpr c_11
    have c_13 : (a0_0 != 3) = true := bne_iff_ne.mpr c_11
    by_cases c_14 : a0_0 = 4
    rotate_left
    focus
     rw [if_neg c_14] at H
     have c_15 : (a0_0 == 4) = false := beq_eq_false_iff_ne.mpr c_14
     have c_16 : (a0_0 != 4) = true := bne_iff_ne.mpr c_14
     obtain ⟨t_3, A_5, H⟩ := Option.bind_eq_some_iff.mp H
     try dsimp only at H
     have A_6 := a_ A_5
     clear A_5
     obtain ⟨t_4, A_7, H⟩ := Option.bind_eq_some_iff.mp H
     try dsimp only at H
     have A_8 := a_ A_7
     clear A_7
     by_cases c_17 : (t_1 ++ t_2).size + t_4.size ≤ 9223372036854775807
     rotate_left
     ·rw [if_neg c_17] at H
      exact absurd H (by simp)
     rw [if_pos c_17] at H
     have c_18 := eq_true c_17
     have c_19 : decide ((t_1 ++ t_2).size + t_4.size ≤ 9223372036854775807) = true := decide_eq_true c_17
     try have c_20 : (9223372036854775807 < (t_1 ++ t_2).size + t_4.size) = False := eq_false (Nat.not_lt.2 c_17)
     clear c_17
     obtain rfl := Option.some.inj H
     (try (have c_21 := c_18; simp only [ByteArray.size_extract, ByteArray.size_append, Nat.min_self, Nat.sub_zero] at c_21))
     (try (have c_22 := c_19; simp only [ByteArray.size_extract, ByteArray.size_append, Nat.min_self, Nat.sub_zero] at c_22))
     (try (have c_23 := c_20; simp only [ByteArray.size_extract, ByteArray.size_append, Nat.min_self, Nat.sub_zero] at c_23))
     have L1_ := trivial
    rotate_left
    focus
     rw [if_pos c_14] at H
     have c_15 : (a0_0 == 4) = true := beq_iff_eq.mpr c_14
     have c_16 : (a0_0 != 4) = false := bne_eq_false_iff_eq.mpr c_14
     clear c_14
     obtain ⟨t_3, A_5, H⟩ := Option.bind_eq_some_iff.mp H
     try dsimp only at H
     have A_6 := a_ A_5
     clear A_5
     obtain ⟨t_4, A_7, H⟩ := Option.bind_eq_some_iff.mp H
     try dsimp only at H
     have A_8 := a_ A_7
     clear A_7
     by_cases c_17 : t_3.size + t_4.size ≤ 9223372036854775807
     rotate_left
     ·rw [if_neg c_17] at H
      exact absurd H (by simp)
     rw [if_pos c_17] at H
     have c_18 := eq_true c_17
     have c_19 : decide (t_3.size + t_4.size ≤ 9223372036854775807) = true := decide_eq_true c_17
     try have c_20 : (9223372036854775807 < t_3.size + t_4.size) = False := eq_false (Nat.not_lt.2 c_17)
     clear c_17
     by_cases c_21 : (t_1 ++ t_2).size + (t_3 ++ t_4).size ≤ 9223372036854775807
     rotate_left
     ·rw [if_neg c_21] at H
      exact absurd H (by simp)
     rw [if_pos c_21] at H
     have c_22 := eq_true c_21
     have c_23 : decide ((t_1 ++ t_2).size + (t_3 ++ t_4).size ≤ 9223372036854775807) = true := decide_eq_true c_21
     try have c_24 : (9223372036854775807 < (t_1 ++ t_2).size + (t_3 ++ t_4).size) = False := eq_false (Nat.not_lt.2 c_21)
     clear c_21
     obtain rfl := Option.some.inj H
     (try (have c_25 := c_22; simp only [ByteArray.size_extract, ByteArray.size_append, Nat.min_self, Nat.sub_zero] at c_25))
     (try (have c_26 := c_23; simp only [ByteArray.size_extract, ByteArray.size_append, Nat.min_self, Nat.sub_zero] at c_26))
     (try (have c_27 := c_24; simp only [ByteArray.size_extract, ByteArray.size_append, Nat.min_self, Nat.sub_zero] at c_27))
     have L2_ := trivial
   rotate_left 2
   focus
    rw [if_pos c_11] at H
    have c_12 : (a0_0 == 3) = true := beq_iff_eq.mpr c_11
    have c_13 : (a0_0 != 3) = false := bne_eq_false_iff_eq.mpr c_11
    clear c_11
    obtain ⟨t_3, A_5, H⟩ := Option.bind_eq_some_iff.mp H
    try dsimp only at H
    have A_6 := a_ A_5
    clear A_5
    obtain ⟨t_4, A_7, H⟩ := Option.bind_eq_some_iff.mp H
    try dsimp only at H
    have A_8 := a_ A_7
    clear A_7
    by_cases c_14 : t_3.size + t_4.size ≤ 9223372036854775807
    rotate_left
    ·rw [if_neg c_14] at H
     exact absurd H (by simp)
    rw [if_pos c_14] at H
    have c_15 := eq_true c_14
    have c_16 : decide (t_3.size + t_4.size ≤ 9223372036854775807) = true := decide_eq_true c_14
    try have c_17 : (9223372036854775807 < t_3.size + t_4.size) = False := eq_false (Nat.not_lt.2 c_14)
    clear c_14
    obtain ⟨t_5, A_9, H⟩ := Option.bind_eq_some_iff.mp H
    try dsimp only at H
    have A_10 := a_ A_9
    clear A_9
    by_cases c_18 : (t_3 ++ t_4).size + t_5.size ≤ 9223372036854775807
    rotate_left
    ·rw [if_neg c_18] at H
     exact absurd H (by simp)
    rw [if_pos c_18] at H
    have c_19 := eq_true c_18
    have c_20 : decide ((t_3 ++ t_4).size + t_5.size ≤ 9223372036854775807) = true := decide_eq_true c_18
    try have c_21 : (9223372036854775807 < (t_3 ++ t_4).size + t_5.size) = False := eq_false (Nat.not_lt.2 c_18)
    clear c_18
    obtain ⟨t_6, A_11, H⟩ := Option.bind_eq_some_iff.mp H
    try dsimp only at H
    have A_12 := a_ A_11
    clear A_11
    by_cases c_22 : ((t_3 ++ t_4) ++ t_5).size + t_6.size ≤ 9223372036854775807
    rotate_left
    ·rw [if_neg c_22] at H
     exact absurd H (by simp)
    rw [if_pos c_22] at H
    have c_23 := eq_true c_22
    have c_24 : decide (((t_3 ++ t_4) ++ t_5).size + t_6.size ≤ 9223372036854775807) = true := decide_eq_true c_22
    try have c_25 : (9223372036854775807 < ((t_3 ++ t_4) ++ t_5).size + t_6.size) = False := eq_false (Nat.not_lt.2 c_22)
    clear c_22
    by_cases c_26 : (t_1 ++ t_2).size + (((t_3 ++ t_4) ++ t_5) ++ t_6).size ≤ 9223372036854775807
    rotate_left
    ·rw [if_neg c_26] at H
     exact absurd H (by simp)
    rw [if_pos c_26] at H
    have c_27 := eq_true c_26
    have c_28 : decide ((t_1 ++ t_2).size + (((t_3 ++ t_4) ++ t_5) ++ t_6).size ≤ 9223372036854775807) = true := decide_eq_true c_26
    try have c_29 : (9223372036854775807 < (t_1 ++ t_2).size + (((t_3 ++ t_4) ++ t_5) ++ t_6).size) = False := eq_false (Nat.not_lt.2 c_26)
    clear c_26
    have H' := a_ H
    clear H
    (try (have c_30 := c_19; simp only [ByteArray.size_extract, ByteArray.size_append, Nat.min_self, Nat.sub_zero] at c_30))
    (try (have c_31 := c_20; simp only [ByteArray.size_extract, ByteArray.size_append, Nat.min_self, Nat.sub_zero] at c_31))
    (try (have c_32 := c_21; simp only [ByteArray.size_extract, ByteArray.size_append, Nat.min_self, Nat.sub_zero] at c_32))
    (try (have c_33 := c_23; simp only [ByteArray.size_extract, ByteArray.size_append, Nat.min_self, Nat.sub_zero] at c_33))
    (try (have c_34 := c_24; simp only [ByteArray.size_extract, ByteArray.size_append, Nat.min_self, Nat.sub_zero] at c_34))
    (try (have c_35 := c_25; simp only [ByteArray.size_extract, ByteArray.size_append, Nat.min_self, Nat.sub_zero] at c_35))
    (try (have c_36 := c_27; simp only [ByteArray.size_extract, ByteArray.size_append, Nat.min_self, Nat.sub_zero] at c_36))
    (try (have c_37 := c_28; simp only [ByteArray.size_extract, ByteArray.size_append, Nat.min_self, Nat.sub_zero] at c_37))
    (try (have c_38 := c_29; simp only [ByteArray.size_extract, ByteArray.size_append, Nat.min_self, Nat.sub_zero] at c_38))
    have L3_ := trivial
 all_goals
  first
  | (have _ := L0_
     try go_wp2
     replace BK_1 := a_ (blk_drew BK_1.out)
     replace HB := a_ (below_drew1 HB.out)
     refine start_ (n := 10) (S := fun w' => w'.cell? ⟨gb_1, 0, none⟩ = some (.int .u8 a0_0) ∧ w'.cell? ⟨gb_1, 1, none⟩ = some (.int .u64 a0_1) ∧ w'.cell? ⟨gb_1, 2, none⟩ = some (.int .u64 a0_2) ∧ w'.cell? ⟨gb_1, 3, none⟩ = some (.int .u64 a0_3) ∧ w'.cell? ⟨gb_1, 4, none⟩ = some (.int .u64 a0_4) ∧ w'.cell? ⟨gb_1, 5, none⟩ = some (.bool a0_5) ∧ w'.cell? ⟨gb_1, 6, none⟩ = some (.slice A0_6 l0_6.length c0_6) ∧ w'.cell? ⟨gb_1, 7, none⟩ = some (.int .u64 a0_7) ∧ w'.cell? ⟨gb_1, 8, none⟩ = some (.int .u64 a0_8) ∧ w'.cell? ⟨gb_1, 9, none⟩ = some (.slice A0_9 l0_9.length c0_9) ∧ w'.cell? ⟨gb_1, 10, none⟩ = some (.string a0_10)) (ds := []) #[false, false, false, false, false, false, false, false, false, false] (by kernel_rfl) rfl rfl ⟨(blk_cell BK_1.out 0).trans rfl, (blk_cell BK_1.out 1).trans rfl, (blk_cell BK_1.out 2).trans rfl, (blk_cell BK_1.out 3).trans rfl, (blk_cell BK_1.out 4).trans rfl, (blk_cell BK_1.out 5).trans rfl, (blk_cell BK_1.out 6).trans rfl, (blk_cell BK_1.out 7).trans rfl, (blk_cell BK_1.out 8).trans rfl, (blk_cell BK_1.out 9).trans rfl, (blk_cell BK_1.out 10).trans rfl⟩ (fun hHeld => ?_); refine with_tabW gafferref13_Bytes.tab5 gafferref13_Bytes.bits5 (fun HT_ HW_ => ?_)
     generalize w_4.drew = w_5 at BK_1 HB hHeld ⊢
     refine py_ HT_ 0 (some 24) ?_
     refine py_ HT_ 1 (some 25) ?_
     refine py_ HT_ 4 (some 28) ?_
     refine ty_ HT_ HW_ 2 (some 26) hHeld ?_
     refine ty_ HT_ HW_ 5 (some 29) hHeld ?_
     refine on_ HT_ 3 (some 27) (fun K hK => ?_)
     refine goes_ Try.func48 (by kernel_rfl) rfl #[.int .u64 a0_2] (by rfl) rfl rfl (ar_) ?_
     with_reducible refine (gafferref01_Number.calls k a0_2 t_3 _ A_6.out).mono ?_
     rintro e w_6 ⟨rfl, hb⟩
     refine ⟨_, rfl, ?_⟩
     replace BK_1 := bB_ BK_1 hb
     replace HB := hB_ (bl_1 HB GE_1) hb
     clear hb
     refine hK.out _ _ ⟨(blk_cell BK_1.out 0).trans rfl, (blk_cell BK_1.out 1).trans rfl, (blk_cell BK_1.out 2).trans rfl, (blk_cell BK_1.out 3).trans rfl, (blk_cell BK_1.out 4).trans rfl, (blk_cell BK_1.out 5).trans rfl, (blk_cell BK_1.out 6).trans rfl, (blk_cell BK_1.out 7).trans rfl, (blk_cell BK_1.out 8).trans rfl, (blk_cell BK_1.out 9).trans rfl, (blk_cell BK_1.out 10).trans rfl⟩ (fun hHeld => ?_)
     clear hK K
     refine nop_ ?_
     refine on_ HT_ 6 (some 30) (fun K hK => ?_)
     refine goes_ Try.func48 (by kernel_rfl) rfl #[.int .u64 a0_3] (by rfl) rfl rfl (ar_) ?_
     with_reducible refine (gafferref01_Number.calls k a0_3 t_4 _ A_8.out).mono ?_
     rintro e w_7 ⟨rfl, hb⟩
     refine ⟨_, rfl, ?_⟩
     replace BK_1 := bB_ BK_1 hb
     replace HB := hB_ (bl_1 HB GE_1) hb
     clear hb
     refine hK.out _ _ ⟨(blk_cell BK_1.out 0).trans rfl, (blk_cell BK_1.out 1).trans rfl, (blk_cell BK_1.out 2).trans rfl, (blk_cell BK_1.out 3).trans rfl, (blk_cell BK_1.out 4).trans rfl, (blk_cell BK_1.out 5).trans rfl, (blk_cell BK_1.out 6).trans rfl, (blk_cell BK_1.out 7).trans rfl, (blk_cell BK_1.out 8).trans rfl, (blk_cell BK_1.out 9).trans rfl, (blk_cell BK_1.out 10).trans rfl⟩ (fun hHeld => ?_)
     clear hK K
     refine nop_ ?_
     refine py_ HT_ 7 (some 31) ?_
     refine py_ HT_ 8 (some 32) ?_
     refine py_ HT_ 9 (some 3) ?_
     refine done_ (done_of HT_.out (by kernel_rfl)) ?_
     try go_wp2
     go_ret
     exact ⟨fz_, bl_1 HB GE_1⟩)
  | (have _ := L1_
     try go_wp2_with (first | ((with_reducible refine gk_ 49 ?_); refine gl_ (some 38) Try.func49 #[.bool a0_5] ?_; (with_reducible refine (gafferref13_flag.calls k a0_5 t_3 _ A_6.out).mono ?_); rintro e w_5 ⟨rfl, hb⟩; refine ⟨_, rfl, ?_⟩; replace BK_1 := bB_ BK_1 hb; replace HB := hB_ (bl_1 HB GE_1) hb; (try clear hb)) | ((with_reducible refine gk_ 52 ?_); refine gl_ (some 19) Try.func52 #[.agg #[.int .u64 a0_7, .int .u64 a0_8, .slice A0_9 l0_9.length c0_9, .string a0_10]] ?_; (with_reducible refine (gafferref05_Bytes.calls k a0_7 a0_8 _ _ l0_9 a0_10 t_3 _ ?side1 ?side2 A_6.out).mono ?_); (case side1 => exact cl_ (Kd.C_below HR_2.out HB.out)); (case side2 => exact HC_2.out); rintro e w_5 ⟨rfl, hb⟩; refine ⟨_, rfl, ?_⟩; replace BK_1 := bB_ BK_1 hb; replace HB := hB_ (bl_1 HB GE_1) hb; (try clear hb)) | ((with_reducible refine gk_ 50 ?_); refine gl_ (some 20) Try.func50 #[.string t_3] ?_; (with_reducible refine (gafferref01_Text.calls k t_3 t_4 _ A_8.out).mono ?_); rintro e w_6 ⟨rfl, hb⟩; refine ⟨_, rfl, ?_⟩; replace BK_1 := bB_ BK_1 hb; replace HB := hB_ (bl_1 HB GE_1) hb; (try clear hb)))
     go_ret
     exact ⟨fz_, bl_1 HB GE_1⟩)
  | (have _ := L2_
     try go_wp2
     replace BK_1 := a_ (blk_drew BK_1.out)
     replace HB := a_ (below_drew1 HB.out)
     refine start_ (n := 10) (S := fun w' => w'.cell? ⟨gb_1, 0, none⟩ = some (.int .u8 a0_0) ∧ w'.cell? ⟨gb_1, 1, none⟩ = some (.int .u64 a0_1) ∧ w'.cell? ⟨gb_1, 2, none⟩ = some (.int .u64 a0_2) ∧ w'.cell? ⟨gb_1, 3, none⟩ = some (.int .u64 a0_3) ∧ w'.cell? ⟨gb_1, 4, none⟩ = some (.int .u64 a0_4) ∧ w'.cell? ⟨gb_1, 5, none⟩ = some (.bool a0_5) ∧ w'.cell? ⟨gb_1, 6, none⟩ = some (.slice A0_6 l0_6.length c0_6) ∧ w'.cell? ⟨gb_1, 7, none⟩ = some (.int .u64 a0_7) ∧ w'.cell? ⟨gb_1, 8, none⟩ = some (.int .u64 a0_8) ∧ w'.cell? ⟨gb_1, 9, none⟩ = some (.slice A0_9 l0_9.length c0_9) ∧ w'.cell? ⟨gb_1, 10, none⟩ = some (.string a0_10)) (ds := []) #[false, false, false, false, false, false, false, false, false, false] (by kernel_rfl) rfl rfl ⟨(blk_cell BK_1.out 0).trans rfl, (blk_cell BK_1.out 1).trans rfl, (blk_cell BK_1.out 2).trans rfl, (blk_cell BK_1.out 3).trans rfl, (blk_cell BK_1.out 4).trans rfl, (blk_cell BK_1.out 5).trans rfl, (blk_cell BK_1.out 6).trans rfl, (blk_cell BK_1.out 7).trans rfl, (blk_cell BK_1.out 8).trans rfl, (blk_cell BK_1.out 9).trans rfl, (blk_cell BK_1.out 10).trans rfl⟩ (fun hHeld => ?_); refine with_tabW gafferref13_Bytes.tab16 gafferref13_Bytes.bits16 (fun HT_ HW_ => ?_)
     generalize w_4.drew = w_5 at BK_1 HB hHeld ⊢
     refine py_ HT_ 0 (some 76) ?_
     refine py_ HT_ 1 (some 77) ?_
     refine py_ HT_ 4 (some 80) ?_
     refine ty_ HT_ HW_ 2 (some 78) hHeld ?_
     refine ty_ HT_ HW_ 5 (some 81) hHeld ?_
     refine on_ HT_ 3 (some 79) (fun K hK => ?_)
     refine goes_ Try.func49 (by kernel_rfl) rfl #[.bool a0_5] (by rfl) rfl rfl (ar_) ?_
     with_reducible refine (gafferref13_flag.calls k a0_5 t_3 _ A_6.out).mono ?_
     rintro e w_6 ⟨rfl, hb⟩
     refine ⟨_, rfl, ?_⟩
     replace BK_1 := bB_ BK_1 hb
     replace HB := hB_ (bl_1 HB GE_1) hb
     clear hb
     refine hK.out _ _ ⟨(blk_cell BK_1.out 0).trans rfl, (blk_cell BK_1.out 1).trans rfl, (blk_cell BK_1.out 2).trans rfl, (blk_cell BK_1.out 3).trans rfl, (blk_cell BK_1.out 4).trans rfl, (blk_cell BK_1.out 5).trans rfl, (blk_cell BK_1.out 6).trans rfl, (blk_cell BK_1.out 7).trans rfl, (blk_cell BK_1.out 8).trans rfl, (blk_cell BK_1.out 9).trans rfl, (blk_cell BK_1.out 10).trans rfl⟩ (fun hHeld => ?_)
     clear hK K
     refine nop_ ?_
     refine on_ HT_ 6 (some 82) (fun K hK => ?_)
     refine goes_ Try.func48 (by kernel_rfl) rfl #[.int .u64 a0_2] (by rfl) rfl rfl (ar_) ?_
     with_reducible refine (gafferref01_Number.calls k a0_2 t_4 _ A_8.out).mono ?_
     rintro e w_7 ⟨rfl, hb⟩
     refine ⟨_, rfl, ?_⟩
     replace BK_1 := bB_ BK_1 hb
     replace HB := hB_ (bl_1 HB GE_1) hb
     clear hb
     refine hK.out _ _ ⟨(blk_cell BK_1.out 0).trans rfl, (blk_cell BK_1.out 1).trans rfl, (blk_cell BK_1.out 2).trans rfl, (blk_cell BK_1.out 3).trans rfl, (blk_cell BK_1.out 4).trans rfl, (blk_cell BK_1.out 5).trans rfl, (blk_cell BK_1.out 6).trans rfl, (blk_cell BK_1.out 7).trans rfl, (blk_cell BK_1.out 8).trans rfl, (blk_cell BK_1.out 9).trans rfl, (blk_cell BK_1.out 10).trans rfl⟩ (fun hHeld => ?_)
     clear hK K
     refine nop_ ?_
     refine py_ HT_ 7 (some 83) ?_
     refine py_ HT_ 8 (some 84) ?_
     refine py_ HT_ 9 (some 3) ?_
     refine done_ (done_of HT_.out (by kernel_rfl)) ?_
     try go_wp2
     go_ret
     exact ⟨fz_, bl_1 HB GE_1⟩)
  | (have _ := L3_
     try go_wp2
     replace BK_1 := a_ (blk_drew BK_1.out)
     replace HB := a_ (below_drew1 HB.out)
     refine start_ (n := 20) (S := fun w' => w'.cell? ⟨gb_1, 0, none⟩ = some (.int .u8 a0_0) ∧ w'.cell? ⟨gb_1, 1, none⟩ = some (.int .u64 a0_1) ∧ w'.cell? ⟨gb_1, 2, none⟩ = some (.int .u64 a0_2) ∧ w'.cell? ⟨gb_1, 3, none⟩ = some (.int .u64 a0_3) ∧ w'.cell? ⟨gb_1, 4, none⟩ = some (.int .u64 a0_4) ∧ w'.cell? ⟨gb_1, 5, none⟩ = some (.bool a0_5) ∧ w'.cell? ⟨gb_1, 6, none⟩ = some (.slice A0_6 l0_6.length c0_6) ∧ w'.cell? ⟨gb_1, 7, none⟩ = some (.int .u64 a0_7) ∧ w'.cell? ⟨gb_1, 8, none⟩ = some (.int .u64 a0_8) ∧ w'.cell? ⟨gb_1, 9, none⟩ = some (.slice A0_9 l0_9.length c0_9) ∧ w'.cell? ⟨gb_1, 10, none⟩ = some (.string a0_10)) (ds := []) #[false, false, false, false, false, false, false, false, false, false, false, false, false, false, false, false, false, false, false, false] (by kernel_rfl) rfl rfl ⟨(blk_cell BK_1.out 0).trans rfl, (blk_cell BK_1.out 1).trans rfl, (blk_cell BK_1.out 2).trans rfl, (blk_cell BK_1.out 3).trans rfl, (blk_cell BK_1.out 4).trans rfl, (blk_cell BK_1.out 5).trans rfl, (blk_cell BK_1.out 6).trans rfl, (blk_cell BK_1.out 7).trans rfl, (blk_cell BK_1.out 8).trans rfl, (blk_cell BK_1.out 9).trans rfl, (blk_cell BK_1.out 10).trans rfl⟩ (fun hHeld => ?_); refine with_tabW gafferref13_Bytes.tab9 gafferref13_Bytes.bits9 (fun HT_ HW_ => ?_)
     generalize w_4.drew = w_5 at BK_1 HB hHeld ⊢
     refine py_ HT_ 0 (some 42) ?_
     refine py_ HT_ 1 (some 43) ?_
     refine py_ HT_ 4 (some 46) ?_
     refine py_ HT_ 8 (some 50) ?_
     refine py_ HT_ 12 (some 54) ?_
     refine ty_ HT_ HW_ 2 (some 44) hHeld ?_
     refine ty_ HT_ HW_ 5 (some 47) hHeld ?_
     refine ty_ HT_ HW_ 9 (some 51) hHeld ?_
     refine ty_ HT_ HW_ 13 (some 55) hHeld ?_
     refine py_ HT_ 14 (some 56) ?_
     refine py_ HT_ 15 (some 57) ?_
     refine on_ HT_ 3 (some 45) (fun K hK => ?_)
     refine goes_ Try.func48 (by kernel_rfl) rfl #[.int .u64 a0_2] (by rfl) rfl rfl (ar_) ?_
     with_reducible refine (gafferref01_Number.calls k a0_2 t_3 _ A_6.out).mono ?_
     rintro e w_6 ⟨rfl, hb⟩
     refine ⟨_, rfl, ?_⟩
     replace BK_1 := bB_ BK_1 hb
     replace HB := hB_ (bl_1 HB GE_1) hb
     clear hb
     refine hK.out _ _ ⟨(blk_cell BK_1.out 0).trans rfl, (blk_cell BK_1.out 1).trans rfl, (blk_cell BK_1.out 2).trans rfl, (blk_cell BK_1.out 3).trans rfl, (blk_cell BK_1.out 4).trans rfl, (blk_cell BK_1.out 5).trans rfl, (blk_cell BK_1.out 6).trans rfl, (blk_cell BK_1.out 7).trans rfl, (blk_cell BK_1.out 8).trans rfl, (blk_cell BK_1.out 9).trans rfl, (blk_cell BK_1.out 10).trans rfl⟩ (fun hHeld => ?_)
     clear hK K
     refine nop_ ?_
     refine on_ HT_ 6 (some 48) (fun K hK => ?_)
     refine goes_ Try.func48 (by kernel_rfl) rfl #[.int .u64 a0_3] (by rfl) rfl rfl (ar_) ?_
     with_reducible refine (gafferref01_Number.calls k a0_3 t_4 _ A_8.out).mono ?_
     rintro e w_7 ⟨rfl, hb⟩
     refine ⟨_, rfl, ?_⟩
     replace BK_1 := bB_ BK_1 hb
     replace HB := hB_ (bl_1 HB GE_1) hb
     clear hb
     refine hK.out _ _ ⟨(blk_cell BK_1.out 0).trans rfl, (blk_cell BK_1.out 1).trans rfl, (blk_cell BK_1.out 2).trans rfl, (blk_cell BK_1.out 3).trans rfl, (blk_cell BK_1.out 4).trans rfl, (blk_cell BK_1.out 5).trans rfl, (blk_cell BK_1.out 6).trans rfl, (blk_cell BK_1.out 7).trans rfl, (blk_cell BK_1.out 8).trans rfl, (blk_cell BK_1.out 9).trans rfl, (blk_cell BK_1.out 10).trans rfl⟩ (fun hHeld => ?_)
     clear hK K
     refine nop_ ?_
     refine py_ HT_ 7 (some 49) ?_
     refine on_ HT_ 10 (some 52) (fun K hK => ?_)
     refine goes_ Try.func48 (by kernel_rfl) rfl #[.int .u64 a0_4] (by rfl) rfl rfl (ar_) ?_
     with_reducible refine (gafferref01_Number.calls k a0_4 t_5 _ A_10.out).mono ?_
     rintro e w_8 ⟨rfl, hb⟩
     refine ⟨_, rfl, ?_⟩
     replace BK_1 := bB_ BK_1 hb
     replace HB := hB_ (bl_1 HB GE_1) hb
     clear hb
     refine hK.out _ _ ⟨(blk_cell BK_1.out 0).trans rfl, (blk_cell BK_1.out 1).trans rfl, (blk_cell BK_1.out 2).trans rfl, (blk_cell BK_1.out 3).trans rfl, (blk_cell BK_1.out 4).trans rfl, (blk_cell BK_1.out 5).trans rfl, (blk_cell BK_1.out 6).trans rfl, (blk_cell BK_1.out 7).trans rfl, (blk_cell BK_1.out 8).trans rfl, (blk_cell BK_1.out 9).trans rfl, (blk_cell BK_1.out 10).trans rfl⟩ (fun hHeld => ?_)
     clear hK K
     refine nop_ ?_
     refine py_ HT_ 11 (some 53) ?_
     refine on_ HT_ 16 (some 58) (fun K hK => ?_)
     refine goes_ Try.func48 (by kernel_rfl) rfl #[.int .u64 (IntKind.u64.wrap ((l0_6.length : Int)))] (by rfl) rfl rfl (ar_) ?_
     with_reducible refine (gafferref01_Number.calls k (IntKind.u64.wrap ((l0_6.length : Int))) t_6 _ A_12.out).mono ?_
     rintro e w_9 ⟨rfl, hb⟩
     refine ⟨_, rfl, ?_⟩
     replace BK_1 := bB_ BK_1 hb
     replace HB := hB_ (bl_1 HB GE_1) hb
     clear hb
     refine hK.out _ _ ⟨(blk_cell BK_1.out 0).trans rfl, (blk_cell BK_1.out 1).trans rfl, (blk_cell BK_1.out 2).trans rfl, (blk_cell BK_1.out 3).trans rfl, (blk_cell BK_1.out 4).trans rfl, (blk_cell BK_1.out 5).trans rfl, (blk_cell BK_1.out 6).trans rfl, (blk_cell BK_1.out 7).trans rfl, (blk_cell BK_1.out 8).trans rfl, (blk_cell BK_1.out 9).trans rfl, (blk_cell BK_1.out 10).trans rfl⟩ (fun hHeld => ?_)
     clear hK K
     refine nop_ ?_
     refine py_ HT_ 17 (some 59) ?_
     refine py_ HT_ 18 (some 60) ?_
     refine py_ HT_ 19 (some 3) ?_
     refine done_ (done_of HT_.out (by kernel_rfl)) ?_
     obtain ⟨_, _, _, _, _, _, _, _, _, _, _, _, _, _, _, _, _, _, _, _, _, _⟩ := c11_ BK_1
     try go_wp2
     go_loopg [3, 64] k (fun kq v3 v64 w' => ∃ (x3_1 : ByteArray) (x64_1 : Int), v3 = .string x3_1 ∧ v64 = .int .i64 x64_1 ∧ Aside0 (gafferref13_Bytes.l0 kq x3_1 l0_6 (l0_6.length : Int) x64_1 = some r) ∧ Aside0 (kq ≤ k) ∧ Aside0 (w'.heap[gb_1]? = some (.cells #[.int .u8 a0_0, .int .u64 a0_1, .int .u64 a0_2, .int .u64 a0_3, .int .u64 a0_4, .bool a0_5, (.slice A0_6 l0_6.length c0_6), .int .u64 a0_7, .int .u64 a0_8, (.slice A0_9 l0_9.length c0_9), .string a0_10] 37 (0, 0))) ∧ Aside0 (Below w.heap.size w w'))
     case atStart => exact ⟨((t_1 ++ t_2) ++ (((t_3 ++ t_4) ++ t_5) ++ t_6)), (0), fz_, fz_, H', ⟨Nat.le_refl _⟩, ⟨bk_ BK_1⟩, ⟨bl_1 HB GE_1⟩⟩
     case round =>
      clear H'
      try clear c1
      try clear c2
      try clear p2
      try clear c3
      try clear c_1
      try clear c_8
      try clear c_9
      try clear c_10
      try clear c20
      try clear c20b0
      try clear c20b1
      try clear c20b2
      try clear c26
      try clear c_11
      try clear c_12
      try clear c_13
      try clear c_14
      try clear c_15
      try clear c_16
      try clear c_17
      try clear c_18
      try clear c_19
      try clear c_20
      try clear c_21
      try clear c_22
      try clear c_23
      try clear c_24
      try clear c_25
      try clear c_26
      try clear c_27
      try clear c_28
      try clear c_29
      obtain ⟨x_1, x_2, rfl, rfl, HA, HK_1, BK_1, HB⟩ := hrel
      cases gk with
      | zero => exact absurd HA.out (by simp [gafferref13_Bytes.l0])
      | succ k1 =>
       have H := HA.out
       clear HA
       simp only [gafferref13_Bytes.l0] at H
       by_cases c_39 : x_2 < (l0_6.length : Int)
       rotate_left
       ·rw [if_neg c_39] at H
        have c_40 : decide (x_2 < (l0_6.length : Int)) = false := decide_eq_false c_39
        clear c_39
        obtain rfl := Option.some.inj H
        go_wp2
        go_ret
        exact ⟨fz_, bl_1 HB GE_1⟩
       rw [if_pos c_39] at H
       have c_40 : decide (x_2 < (l0_6.length : Int)) = true := decide_eq_true c_39
       clear c_39
       by_cases c_41 : 0 ≤ x_2
       rotate_left
       ·rw [if_neg c_41] at H
        exact absurd H (by simp)
       rw [if_pos c_41] at H
       have c_42 : decide (0 ≤ x_2) = true := decide_eq_true c_41
       clear c_41
       by_cases c_43 : x_2 < (l0_6.length : Int)
       rotate_left
       ·rw [if_neg c_43] at H
        exact absurd H (by simp)
       rw [if_pos c_43] at H
       have c_44 : decide (x_2 < (l0_6.length : Int)) = true := decide_eq_true c_43
       clear c_43
       obtain ⟨t_7, A_13, H⟩ := Option.bind_eq_some_iff.mp H
       try dsimp only at H
       have A_14 := a_ A_13
       clear A_13
       obtain ⟨t_8, A_15, H⟩ := Option.bind_eq_some_iff.mp H
       try dsimp only at H
       have A_16 := a_ A_15
       clear A_15
       by_cases c_45 : x_1.size + t_8.size ≤ 9223372036854775807
       rotate_left
       ·rw [if_neg c_45] at H
        exact absurd H (by simp)
       rw [if_pos c_45] at H
       have c_46 := eq_true c_45
       have c_47 : decide (x_1.size + t_8.size ≤ 9223372036854775807) = true := decide_eq_true c_45
       try have c_48 : (9223372036854775807 < x_1.size + t_8.size) = False := eq_false (Nat.not_lt.2 c_45)
       clear c_45
       have H' := a_ H
       clear H
       have p_1 : 0 ≤ (x_2 : Int) := od_
       have q_1 : x_2 < (l0_6.length : Int) := od_
       obtain ⟨ad_1, A_17, c_49, e_1, hx_1, hx_2, hx_3, hx_4, hx_5, hl_1, hi_1⟩ := at_T67 HR_1.out x_2 p_1 q_1
       cases e_1
       replace hx_1 := hc_ HB hx_1
       replace hx_2 := hc_ HB hx_2
       replace hx_3 := hc_ HB hx_3
       replace hx_4 := hc_ HB hx_4
       replace hx_5 := hc_ HB hx_5
       have HR_3 := a_ hi_1
       have HC_3 := a_ hl_1
       clear hi_1 hl_1
       replace p_1 := eq_true p_1
       replace q_1 := eq_true q_1
       go_wp2_with (first | ((with_reducible refine gd_ 5 ?_); refine bx_ 5 #[.int .u64 0, .int .u64 0, .int .u8 0, .string (⟨#[]⟩ : ByteArray), .slice none 0 0] 67 ?_; intro gb_2 hg w_10 hbox hb; have BK_2 := a_ (hbox); have GE_2 := a_ (bs_1 hg HB GE_1); replace HB := hB_ (bl_1 HB GE_1) hb; have NB_1 := nB_ hg BK_1; have NB_2 := nC_ hg BK_1; replace BK_1 := bB_ BK_1 hb; clear hb hbox hg; have hnb_1 := NB_2.out; have hnc_1 := NB_1.out; obtain ⟨_, _, _, _, _, _, _, _, _, _⟩ := c5_ BK_2) | ((with_reducible refine gk_ 51 ?_); refine gl_ (some 70) Try.func51 #[.agg #[.int .u64 ((rd_T67 l0_6 x_2).f0), .int .u64 ((rd_T67 l0_6 x_2).f1), .int .u8 ((rd_T67 l0_6 x_2).f2), .string ((rd_T67 l0_6 x_2).f3), .slice A_17 ((rd_T67 l0_6 x_2).f4).length c_49]] ?_; (with_reducible refine (gafferref03_Bytes.calls k1 ((rd_T67 l0_6 x_2).f0) ((rd_T67 l0_6 x_2).f1) ((rd_T67 l0_6 x_2).f2) ((rd_T67 l0_6 x_2).f3) _ _ ((rd_T67 l0_6 x_2).f4) t_7 _ ?side1 ?side2 A_14.out).mono ?_); (case side1 => exact Kd.C_below HR_3.out (bl_2 HB GE_1 GE_2)); (case side2 => exact HC_3.out); rintro e w_11 ⟨rfl, hb⟩; refine ⟨_, rfl, ?_⟩; replace BK_1 := a_ (blk_below (g := gb_1) (o := .cells #[.int .u8 a0_0, .int .u64 a0_1, .int .u64 a0_2, .int .u64 a0_3, .int .u64 a0_4, .bool a0_5, .slice (some ad_1) l0_6.length c0_6, .int .u64 a0_7, .int .u64 a0_8, .slice A0_9 l0_9.length c0_9, .string a0_10] 37 (0, 0)) (bp_1 BK_1 NB_1) hb); replace BK_2 := a_ (blk_below (g := gb_2) (o := .cells #[.int .u64 ((rd_T67 l0_6 x_2).f0), .int .u64 ((rd_T67 l0_6 x_2).f1), .int .u8 ((rd_T67 l0_6 x_2).f2), .string ((rd_T67 l0_6 x_2).f3), .slice A_17 ((rd_T67 l0_6 x_2).f4).length c_49] 67 (0, 0)) (bp_0 BK_2) hb); replace HB := hB_ (bl_2 HB GE_1 GE_2) hb; (try clear hb)) | ((with_reducible refine gk_ 50 ?_); refine gl_ (some 71) Try.func50 #[.string t_7] ?_; (with_reducible refine (gafferref01_Text.calls k1 t_7 t_8 _ A_16.out).mono ?_); rintro e w_12 ⟨rfl, hb⟩; refine ⟨_, rfl, ?_⟩; replace BK_1 := bB_ BK_1 hb; replace BK_2 := bB_ BK_2 hb; replace HB := hB_ (bl_2 HB GE_1 GE_2) hb; (try clear hb)))
       go_roundg k1
       case measure => have := HK_1.out; omega
       case rel => exact ⟨(x_1 ++ t_8), (wrap64 (x_2 + 1)), fz_, fz_, H', ⟨by have := HK_1.out; omega⟩, ⟨bk_ BK_1⟩, ⟨bl_2 HB GE_1 GE_2⟩⟩)

end Go.Proofs.Ytcdibodjkdoknaa.PM
