-- By a program of this session.
import Derived.Test.YtcdibodjkdoknaaPMx0
import Derived.Test.YtcdibodjkdoknaaPMx8
namespace Go.Proofs.Ytcdibodjkdoknaa.PM
open Go.RowKit YtcdibodjkdoknaaW.PrintWords YtcdibodjkdoknaaW.PrintLast YtcdibodjkdoknaaW.PrintMore Sh Ytcdibodjkdoknaa.Op
attribute [local go_sem] max2_int min2_int max_two min_two max_three min_three max_four min_four
set_option linter.unusedVariables false
set_option maxHeartbeats 80000000
set_option maxRecDepth 100000
set_option linter.unusedSimpArgs false

def gafferref01_Text.f (k : Nat) (a0 : ByteArray) : Option (ByteArray) := (gafferref01_Number.f k (IntKind.u64.wrap ((a0.size : Int)))).bind fun t176 => (if t176.size + a0.size ≤ 9223372036854775807 then (some (t176 ++ a0)) else (none))
theorem gafferref01_Text.mono : ∀ a0 k, LeO (gafferref01_Text.f k a0) (gafferref01_Text.f (k + 1) a0) := by
 intro a0 k
 unfold gafferref01_Text.f
 repeat' with_reducible first | apply gafferref01_Number.mono | apply LeO.refl | apply LeO.none | apply LeO.ite | refine LeO.bind ?_ (fun _ => ?_)
theorem gafferref01_Text.calls (k : Nat) (a0 : ByteArray) (r : ByteArray) (w : World) (h : gafferref01_Text.f k a0 = some r) :
  Calls Try.prog 50 #[.string a0] w fun e w' => e = .returned (.string r) ∧ Below w.heap.size w w' := by
 have HB := a_ (Below.refl w.heap.size w)
 have H := h
 unfold gafferref01_Text.f at H
 clear h
 obtain ⟨t176, A20, H⟩ := Option.bind_eq_some_iff.mp H
 try dsimp only at H
 have A2 := a_ A20
 clear A20
 by_cases c3 : t176.size + a0.size ≤ 9223372036854775807
 rotate_left
 ·rw [if_neg c3] at H
  exact absurd H (by simp)


 rw [if_pos c3] at H
 have c3b0 := eq_true c3
 have c3b1 : decide (t176.size + a0.size ≤ 9223372036854775807) = true := decide_eq_true c3
 try have c3b2 : (9223372036854775807 < t176.size + a0.size) = False := eq_false (Nat.not_lt.2 c3)
 clear c3
 obtain rfl := Option.some.inj H
 go_enter Try.func50, Try.ntmps50
 go_wp2_with (first | ((with_reducible refine gk_ 48 ?_); refine gl_ (some 6) Try.func48 #[.int .u64 (IntKind.u64.wrap ((a0.size : Int)))] ?_; (with_reducible refine (gafferref01_Number.calls k (IntKind.u64.wrap ((a0.size : Int))) t176 _ A2.out).mono ?_); rintro e w4 ⟨rfl, hb⟩; refine ⟨_, rfl, ?_⟩; replace HB := hB_ (bl_ HB) hb; (try clear hb)))
 go_ret
 exact ⟨fz_, bl_ HB⟩
def gafferref03_Ints.l0 : Nat → ByteArray → List Int → Int → Int → Option (ByteArray)
 | 0, _, _, _, _ => none
 | k + 1, x3, x10, x11, x12 => if x12 < x11 then (if 0 ≤ x12 then (if x12 < (x10.length : Int) then ((gafferref01_Number.f k (IntKind.u64.wrap (rd x10 x12))).bind fun t179 => (if x3.size + t179.size ≤ 9223372036854775807 then (gafferref03_Ints.l0 k (x3 ++ t179) x10 x11 (wrap64 (x12 + 1))) else (none))) else (none)) else (none)) else (some x3)
def gafferref03_Ints.f (k : Nat) (l0 : List Int) : Option (ByteArray) := (gafferref01_Number.f k (IntKind.u64.wrap ((l0.length : Int)))).bind fun t177 => (gafferref03_Ints.l0 k t177 l0 (l0.length : Int) 0)
theorem gafferref03_Ints.mono_l : ∀ k, (∀ y0 y1 y2 y3, LeO (gafferref03_Ints.l0 k y0 y1 y2 y3) (gafferref03_Ints.l0 (k + 1) y0 y1 y2 y3))
 | 0 => fun _ _ _ _ r h => by simp [gafferref03_Ints.l0] at h
 | k + 1 => by
  have ih0 := gafferref03_Ints.mono_l k
  ·intro y0 y1 y2 y3
   unfold gafferref03_Ints.l0
   repeat' with_reducible first | apply ih0 | apply gafferref01_Number.mono | apply LeO.refl | apply LeO.none | apply LeO.ite | refine LeO.bind ?_ (fun _ => ?_)
theorem gafferref03_Ints.mono : ∀ a0 k, LeO (gafferref03_Ints.f k a0) (gafferref03_Ints.f (k + 1) a0) := by
 intro a0 k
 have ih0 := gafferref03_Ints.mono_l k
 unfold gafferref03_Ints.f
 repeat' with_reducible first | apply ih0 | apply gafferref01_Number.mono | apply LeO.refl | apply LeO.none | apply LeO.ite | refine LeO.bind ?_ (fun _ => ?_)
theorem gafferref03_Ints.calls (k : Nat) (A0 : Option Addr) (c0 : Nat) (l0 : List Int) (r : ByteArray) (w : World) (hr0 : Kd.C (Kd.int .i64) w A0 l0.length l0) (hc0 : l0.length ≤ c0) (h : gafferref03_Ints.f k l0 = some r) :
  Calls Try.prog 77 #[.slice A0 l0.length c0] w fun e w' => e = .returned (.string r) ∧ Below w.heap.size w w' := by
 have HR_1 := a_ hr0
 have HC_1 := a_ hc0
 clear hr0 hc0
 have HB := a_ (Below.refl w.heap.size w)
 have H := h
 unfold gafferref03_Ints.f at H
 clear h
 obtain ⟨t_1, A_1, H⟩ := Option.bind_eq_some_iff.mp H
 try dsimp only at H
 have A_2 := a_ A_1
 clear A_1
 have H' := a_ H
 clear H
 go_enter Try.func77, Try.ntmps77
 go_wp2_with (first | ((with_reducible refine gk_ 48 ?_); refine gl_ (some 9) Try.func48 #[.int .u64 (IntKind.u64.wrap ((l0.length : Int)))] ?_; (with_reducible refine (gafferref01_Number.calls k (IntKind.u64.wrap ((l0.length : Int))) t_1 _ A_2.out).mono ?_); rintro e w_1 ⟨rfl, hb⟩; refine ⟨_, rfl, ?_⟩; replace HB := hB_ (bl_ HB) hb; (try clear hb)))
 go_loopg [3, 12] k (fun kq v3 v12 w' => ∃ (x3_1 : ByteArray) (x12_1 : Int), v3 = .string x3_1 ∧ v12 = .int .i64 x12_1 ∧ Aside0 (gafferref03_Ints.l0 kq x3_1 l0 (l0.length : Int) x12_1 = some r) ∧ Aside0 (kq ≤ k) ∧ Aside0 (Below w.heap.size w w'))
 case atStart => exact ⟨(t_1), (0), fz_, fz_, H', ⟨Nat.le_refl _⟩, ⟨bl_ HB⟩⟩
 case round =>
  clear H'
  try clear p2
  obtain ⟨x_1, x_2, rfl, rfl, HA, HK_1, HB⟩ := hrel
  cases gk with
  | zero => exact absurd HA.out (by simp [gafferref03_Ints.l0])
  | succ k1 =>
   have H := HA.out
   clear HA
   simp only [gafferref03_Ints.l0] at H
   by_cases c_1 : x_2 < (l0.length : Int)
   rotate_left
   ·rw [if_neg c_1] at H
    have c_2 : decide (x_2 < (l0.length : Int)) = false := decide_eq_false c_1
    clear c_1
    obtain rfl := Option.some.inj H
    go_wp2
    go_ret
    exact ⟨fz_, bl_ HB⟩
   rw [if_pos c_1] at H
   have c_2 : decide (x_2 < (l0.length : Int)) = true := decide_eq_true c_1
   clear c_1
   by_cases c_3 : 0 ≤ x_2
   rotate_left
   ·rw [if_neg c_3] at H
    exact absurd H (by simp)
   rw [if_pos c_3] at H
   have c_4 : decide (0 ≤ x_2) = true := decide_eq_true c_3
   clear c_3
   by_cases c_5 : x_2 < (l0.length : Int)
   rotate_left
   ·rw [if_neg c_5] at H
    exact absurd H (by simp)
   rw [if_pos c_5] at H
   have c_6 : decide (x_2 < (l0.length : Int)) = true := decide_eq_true c_5
   clear c_5
   obtain ⟨t_2, A_3, H⟩ := Option.bind_eq_some_iff.mp H
   try dsimp only at H
   have A_4 := a_ A_3
   clear A_3
   by_cases c_7 : x_1.size + t_2.size ≤ 9223372036854775807
   rotate_left
   ·rw [if_neg c_7] at H
    exact absurd H (by simp)
   rw [if_pos c_7] at H
   have c_8 := eq_true c_7
   have c_9 : decide (x_1.size + t_2.size ≤ 9223372036854775807) = true := decide_eq_true c_7
   try have c_10 : (9223372036854775807 < x_1.size + t_2.size) = False := eq_false (Nat.not_lt.2 c_7)
   clear c_7
   have H' := a_ H
   clear H
   have p_1 : 0 ≤ (x_2 : Int) := od_
   have q_1 : x_2 < (l0.length : Int) := od_
   obtain ⟨ad_1, e_1, hx_1⟩ := Kd.at_int HR_1.out x_2 p_1 q_1
   cases e_1
   replace hx_1 := hc_ HB hx_1
   replace p_1 := eq_true p_1
   replace q_1 := eq_true q_1
   go_wp2_with (first | ((with_reducible refine gk_ 48 ?_); refine gl_ (some 19) Try.func48 #[.int .u64 (IntKind.u64.wrap (rd l0 x_2))] ?_; (with_reducible refine (gafferref01_Number.calls k1 (IntKind.u64.wrap (rd l0 x_2)) t_2 _ A_4.out).mono ?_); rintro e w_2 ⟨rfl, hb⟩; refine ⟨_, rfl, ?_⟩; replace HB := hB_ (bl_ HB) hb; (try clear hb)))
   go_roundg k1
   case measure => have := HK_1.out; omega
   case rel => exact ⟨(x_1 ++ t_2), (wrap64 (x_2 + 1)), fz_, fz_, H', ⟨by have := HK_1.out; omega⟩, ⟨bl_ HB⟩⟩

def gafferref03_Bytes.f (k : Nat) (a0_0 : Int) (a0_1 : Int) (a0_2 : Int) (a0_3 : ByteArray) (l0_4 : List Int) : Option (ByteArray) := (gafferref01_Number.f k a0_0).bind fun t181 => ((gafferref01_Number.f k a0_1).bind fun t182 => (if t181.size + t182.size ≤ 9223372036854775807 then ((gafferref01_Number.f k (IntKind.u64.wrap (a0_2))).bind fun t183 => (if (t181 ++ t182).size + t183.size ≤ 9223372036854775807 then ((gafferref01_Text.f k a0_3).bind fun t184 => (if ((t181 ++ t182) ++ t183).size + t184.size ≤ 9223372036854775807 then ((gafferref03_Ints.f k l0_4).bind fun t185 => (if (((t181 ++ t182) ++ t183) ++ t184).size + t185.size ≤ 9223372036854775807 then (some ((((t181 ++ t182) ++ t183) ++ t184) ++ t185)) else (none))) else (none))) else (none))) else (none)))
theorem gafferref03_Bytes.mono : ∀ a0 a1 a2 a3 a4 k, LeO (gafferref03_Bytes.f k a0 a1 a2 a3 a4) (gafferref03_Bytes.f (k + 1) a0 a1 a2 a3 a4) := by
 intro a0 a1 a2 a3 a4 k
 unfold gafferref03_Bytes.f
 repeat' with_reducible first | apply gafferref01_Number.mono | apply gafferref01_Text.mono | apply gafferref03_Ints.mono | apply LeO.refl | apply LeO.none | apply LeO.ite | refine LeO.bind ?_ (fun _ => ?_)
def gafferref03_Bytes.T1 : Bool × List (List Nat × List Nat) := (true, [([], []), ([0], [0]), ([1], [1]), ([], []), ([3], [3]), ([4, 2], [4]), ([2, 5], [2, 5]), ([], []), ([7], [7]), ([8], [8]), ([9, 5], [9]), ([6, 10], [6, 10]), ([], []), ([12], [12]), ([13, 10], [13]), ([11, 14], [11, 14]), ([], []), ([16], [16]), ([17, 14], [17]), ([15, 18], [15, 18]), ([19, 18, 0, 1, 2, 3, 4, 5, 6, 7, 8, 9, 10, 11, 12, 13, 14, 15, 16, 17, 18, 19], [19])])
def gafferref03_Bytes.B1 : List Nat := [0, 1, 3, 0, 8, 31, 63, 0, 128, 384, 959, 2047, 0, 4096, 14271, 32767, 0, 65536, 227263, 524287, 1048575]
theorem gafferref03_Bytes.tab1 : rtab .any (opsOf Try.f51 1) = gafferref03_Bytes.T1 := by kernel_rfl
theorem gafferref03_Bytes.bits1 : waitsOk gafferref03_Bytes.T1.2 gafferref03_Bytes.B1 = true := by kernel_rfl
theorem gafferref03_Bytes.calls (k : Nat) (a0_0 : Int) (a0_1 : Int) (a0_2 : Int) (a0_3 : ByteArray) (A0_4 : Option Addr) (c0_4 : Nat) (l0_4 : List Int) (r : ByteArray) (w : World) (hr0_4 : Kd.C (Kd.int .i64) w A0_4 l0_4.length l0_4) (hc0_4 : l0_4.length ≤ c0_4) (h : gafferref03_Bytes.f k a0_0 a0_1 a0_2 a0_3 l0_4 = some r) :
  Calls Try.prog 51 #[.agg #[.int .u64 a0_0, .int .u64 a0_1, .int .u8 a0_2, .string a0_3, .slice A0_4 l0_4.length c0_4]] w fun e w' => e = .returned (.string r) ∧ Below w.heap.size w w' := by
 have hu_1 := Try.underlying67
 have HR_1 := a_ hr0_4
 have HC_1 := a_ hc0_4
 clear hr0_4 hc0_4
 have HB := a_ (Below.refl w.heap.size w)
 have H := h
 unfold gafferref03_Bytes.f at H
 clear h
 obtain ⟨t_1, A_1, H⟩ := Option.bind_eq_some_iff.mp H
 try dsimp only at H
 have A_2 := a_ A_1
 clear A_1
 obtain ⟨t_2, A_3, H⟩ := Option.bind_eq_some_iff.mp H
 try dsimp only at H
 have A_4 := a_ A_3
 clear A_3
 by_cases c_1 : t_1.size + t_2.size ≤ 9223372036854775807
 rotate_left
 ·rw [if_neg c_1] at H
  exact absurd H (by simp)
 rw [if_pos c_1] at H
 have c_2 := eq_true c_1
 have c_3 : decide (t_1.size + t_2.size ≤ 9223372036854775807) = true := decide_eq_true c_1
 try have c_4 : (9223372036854775807 < t_1.size + t_2.size) = False := eq_false (Nat.not_lt.2 c_1)
 clear c_1
 obtain ⟨t_3, A_5, H⟩ := Option.bind_eq_some_iff.mp H
 try dsimp only at H
 have A_6 := a_ A_5
 clear A_5
 by_cases c_5 : (t_1 ++ t_2).size + t_3.size ≤ 9223372036854775807
 rotate_left
 ·rw [if_neg c_5] at H
  exact absurd H (by simp)
 rw [if_pos c_5] at H
 have c_6 := eq_true c_5
 have c_7 : decide ((t_1 ++ t_2).size + t_3.size ≤ 9223372036854775807) = true := decide_eq_true c_5
 try have c_8 : (9223372036854775807 < (t_1 ++ t_2).size + t_3.size) = False := eq_false (Nat.not_lt.2 c_5)
 clear c_5
 obtain ⟨t_4, A_7, H⟩ := Option.bind_eq_some_iff.mp H
 try dsimp only at H
 have A_8 := a_ A_7
 clear A_7
 by_cases c_9 : ((t_1 ++ t_2) ++ t_3).size + t_4.size ≤ 9223372036854775807
 rotate_left
 ·rw [if_neg c_9] at H
  exact absurd H (by simp)
 rw [if_pos c_9] at H
 have c_10 := eq_true c_9
 have c_11 : decide (((t_1 ++ t_2) ++ t_3).size + t_4.size ≤ 9223372036854775807) = true := decide_eq_true c_9
 try have c_12 : (9223372036854775807 < ((t_1 ++ t_2) ++ t_3).size + t_4.size) = False := eq_false (Nat.not_lt.2 c_9)
 clear c_9
 obtain ⟨t_5, A_9, H⟩ := Option.bind_eq_some_iff.mp H
 try dsimp only at H
 have A_10 := a_ A_9
 clear A_9
 by_cases c_13 : (((t_1 ++ t_2) ++ t_3) ++ t_4).size + t_5.size ≤ 9223372036854775807
 rotate_left
 ·rw [if_neg c_13] at H
  exact absurd H (by simp)
 rw [if_pos c_13] at H
 have c_14 := eq_true c_13
 have c_15 : decide ((((t_1 ++ t_2) ++ t_3) ++ t_4).size + t_5.size ≤ 9223372036854775807) = true := decide_eq_true c_13
 try have c_16 : (9223372036854775807 < (((t_1 ++ t_2) ++ t_3) ++ t_4).size + t_5.size) = False := eq_false (Nat.not_lt.2 c_13)
 clear c_13
 obtain rfl := Option.some.inj H
 (try (have c_17 := c_6; simp only [ByteArray.size_extract, ByteArray.size_append, Nat.min_self, Nat.sub_zero] at c_17))
 (try (have c_18 := c_7; simp only [ByteArray.size_extract, ByteArray.size_append, Nat.min_self, Nat.sub_zero] at c_18))
 (try (have c_19 := c_8; simp only [ByteArray.size_extract, ByteArray.size_append, Nat.min_self, Nat.sub_zero] at c_19))
 (try (have c_20 := c_10; simp only [ByteArray.size_extract, ByteArray.size_append, Nat.min_self, Nat.sub_zero] at c_20))
 (try (have c_21 := c_11; simp only [ByteArray.size_extract, ByteArray.size_append, Nat.min_self, Nat.sub_zero] at c_21))
 (try (have c_22 := c_12; simp only [ByteArray.size_extract, ByteArray.size_append, Nat.min_self, Nat.sub_zero] at c_22))
 (try (have c_23 := c_14; simp only [ByteArray.size_extract, ByteArray.size_append, Nat.min_self, Nat.sub_zero] at c_23))
 (try (have c_24 := c_15; simp only [ByteArray.size_extract, ByteArray.size_append, Nat.min_self, Nat.sub_zero] at c_24))
 (try (have c_25 := c_16; simp only [ByteArray.size_extract, ByteArray.size_append, Nat.min_self, Nat.sub_zero] at c_25))
 go_enter Try.func51, Try.ntmps51
 try go_wp2_with (first | ((with_reducible refine gd_ 1 ?_); refine bx_ 1 #[.int .u64 a0_0, .int .u64 a0_1, .int .u8 a0_2, .string a0_3, .slice A0_4 l0_4.length c0_4] 67 ?_; intro gb_1 hg w_1 hbox hb; have BK_1 := a_ (hbox); have GE_1 := a_ (bs_0 hg HB); replace HB := hB_ (bl_ HB) hb; clear hb hbox hg))
 replace BK_1 := a_ (blk_drew BK_1.out)
 replace HB := a_ (below_drew1 HB.out)
 refine start_ (n := 21) (S := fun w' => w'.cell? ⟨gb_1, 0, none⟩ = some (.int .u64 a0_0) ∧ w'.cell? ⟨gb_1, 1, none⟩ = some (.int .u64 a0_1) ∧ w'.cell? ⟨gb_1, 2, none⟩ = some (.int .u8 a0_2) ∧ w'.cell? ⟨gb_1, 3, none⟩ = some (.string a0_3) ∧ w'.cell? ⟨gb_1, 4, none⟩ = some (.slice A0_4 l0_4.length c0_4)) (ds := []) #[false, false, false, false, false, false, false, false, false, false, false, false, false, false, false, false, false, false, false, false, false] (by kernel_rfl) rfl rfl ⟨(blk_cell BK_1.out 0).trans rfl, (blk_cell BK_1.out 1).trans rfl, (blk_cell BK_1.out 2).trans rfl, (blk_cell BK_1.out 3).trans rfl, (blk_cell BK_1.out 4).trans rfl⟩ (fun hHeld => ?_); refine with_tabW gafferref03_Bytes.tab1 gafferref03_Bytes.bits1 (fun HT_ HW_ => ?_)
 generalize w_1.drew = w_2 at BK_1 HB hHeld ⊢
 refine py_ HT_ 0 (some 3) ?_
 refine py_ HT_ 3 (some 6) ?_
 refine py_ HT_ 7 (some 10) ?_
 refine py_ HT_ 12 (some 15) ?_
 refine py_ HT_ 16 (some 19) ?_
 refine ty_ HT_ HW_ 1 (some 4) hHeld ?_
 refine ty_ HT_ HW_ 4 (some 7) hHeld ?_
 refine ty_ HT_ HW_ 8 (some 11) hHeld ?_
 refine py_ HT_ 9 (some 12) ?_
 refine ty_ HT_ HW_ 13 (some 16) hHeld ?_
 refine ty_ HT_ HW_ 17 (some 20) hHeld ?_
 refine on_ HT_ 2 (some 5) (fun K hK => ?_)
 refine goes_ Try.func48 (by kernel_rfl) rfl #[.int .u64 a0_0] (by rfl) rfl rfl (ar_) ?_
 with_reducible refine (gafferref01_Number.calls k a0_0 t_1 _ A_2.out).mono ?_
 rintro e w_3 ⟨rfl, hb⟩
 refine ⟨_, rfl, ?_⟩
 replace BK_1 := bB_ BK_1 hb
 replace HB := hB_ (bl_1 HB GE_1) hb
 clear hb
 refine hK.out _ _ ⟨(blk_cell BK_1.out 0).trans rfl, (blk_cell BK_1.out 1).trans rfl, (blk_cell BK_1.out 2).trans rfl, (blk_cell BK_1.out 3).trans rfl, (blk_cell BK_1.out 4).trans rfl⟩ (fun hHeld => ?_)
 clear hK K
 refine nop_ ?_
 refine on_ HT_ 5 (some 8) (fun K hK => ?_)
 refine goes_ Try.func48 (by kernel_rfl) rfl #[.int .u64 a0_1] (by rfl) rfl rfl (ar_) ?_
 with_reducible refine (gafferref01_Number.calls k a0_1 t_2 _ A_4.out).mono ?_
 rintro e w_4 ⟨rfl, hb⟩
 refine ⟨_, rfl, ?_⟩
 replace BK_1 := bB_ BK_1 hb
 replace HB := hB_ (bl_1 HB GE_1) hb
 clear hb
 refine hK.out _ _ ⟨(blk_cell BK_1.out 0).trans rfl, (blk_cell BK_1.out 1).trans rfl, (blk_cell BK_1.out 2).trans rfl, (blk_cell BK_1.out 3).trans rfl, (blk_cell BK_1.out 4).trans rfl⟩ (fun hHeld => ?_)
 clear hK K
 refine nop_ ?_
 refine py_ HT_ 6 (some 9) ?_
 refine on_ HT_ 10 (some 13) (fun K hK => ?_)
 refine goes_ Try.func48 (by kernel_rfl) rfl #[.int .u64 (IntKind.u64.wrap (a0_2))] (by rfl) rfl rfl (ar_) ?_
 with_reducible refine (gafferref01_Number.calls k (IntKind.u64.wrap (a0_2)) t_3 _ A_6.out).mono ?_
 rintro e w_5 ⟨rfl, hb⟩
 refine ⟨_, rfl, ?_⟩
 replace BK_1 := bB_ BK_1 hb
 replace HB := hB_ (bl_1 HB GE_1) hb
 clear hb
 refine hK.out _ _ ⟨(blk_cell BK_1.out 0).trans rfl, (blk_cell BK_1.out 1).trans rfl, (blk_cell BK_1.out 2).trans rfl, (blk_cell BK_1.out 3).trans rfl, (blk_cell BK_1.out 4).trans rfl⟩ (fun hHeld => ?_)
 clear hK K
 refine nop_ ?_
 refine py_ HT_ 11 (some 14) ?_
 refine on_ HT_ 14 (some 17) (fun K hK => ?_)
 refine goes_ Try.func50 (by kernel_rfl) rfl #[.string a0_3] (by rfl) rfl rfl (ar_) ?_
 with_reducible refine (gafferref01_Text.calls k a0_3 t_4 _ A_8.out).mono ?_
 rintro e w_6 ⟨rfl, hb⟩
 refine ⟨_, rfl, ?_⟩
 replace BK_1 := bB_ BK_1 hb
 replace HB := hB_ (bl_1 HB GE_1) hb
 clear hb
 refine hK.out _ _ ⟨(blk_cell BK_1.out 0).trans rfl, (blk_cell BK_1.out 1).trans rfl, (blk_cell BK_1.out 2).trans rfl, (blk_cell BK_1.out 3).trans rfl, (blk_cell BK_1.out 4).trans rfl⟩ (fun hHeld => ?_)
 clear hK K
 refine nop_ ?_
 refine py_ HT_ 15 (some 18) ?_
 refine on_ HT_ 18 (some 21) (fun K hK => ?_)
 refine goes_ Try.func77 (by kernel_rfl) rfl #[.slice A0_4 l0_4.length c0_4] (by rfl) rfl rfl (ar_) ?_
 with_reducible refine (gafferref03_Ints.calls k _ _ l0_4 t_5 _ ?side1 ?side2 A_10.out).mono ?_
 (case side1 => exact cl_ (Kd.C_below HR_1.out HB.out))
 (case side2 => exact HC_1.out)
 rintro e w_7 ⟨rfl, hb⟩
 refine ⟨_, rfl, ?_⟩
 replace BK_1 := bB_ BK_1 hb
 replace HB := hB_ (bl_1 HB GE_1) hb
 clear hb
 refine hK.out _ _ ⟨(blk_cell BK_1.out 0).trans rfl, (blk_cell BK_1.out 1).trans rfl, (blk_cell BK_1.out 2).trans rfl, (blk_cell BK_1.out 3).trans rfl, (blk_cell BK_1.out 4).trans rfl⟩ (fun hHeld => ?_)
 clear hK K
 refine nop_ ?_
 refine py_ HT_ 19 (some 22) ?_
 refine py_ HT_ 20 (some 2) ?_
 refine done_ (done_of HT_.out (by kernel_rfl)) ?_
 try go_wp2
 go_ret
 exact ⟨fz_, bl_1 HB GE_1⟩

def gafferref05_Bytes.f (k : Nat) (a0_0 : Int) (a0_1 : Int) (l0_2 : List Int) (a0_3 : ByteArray) : Option (ByteArray) := (gafferref01_Number.f k a0_0).bind fun t187 => ((gafferref01_Number.f k a0_1).bind fun t188 => (if t187.size + t188.size ≤ 9223372036854775807 then ((gafferref03_Ints.f k l0_2).bind fun t189 => (if (t187 ++ t188).size + t189.size ≤ 9223372036854775807 then ((gafferref01_Text.f k a0_3).bind fun t190 => (if ((t187 ++ t188) ++ t189).size + t190.size ≤ 9223372036854775807 then (some (((t187 ++ t188) ++ t189) ++ t190)) else (none))) else (none))) else (none)))
theorem gafferref05_Bytes.mono : ∀ a0 a1 a2 a3 k, LeO (gafferref05_Bytes.f k a0 a1 a2 a3) (gafferref05_Bytes.f (k + 1) a0 a1 a2 a3) := by
 intro a0 a1 a2 a3 k
 unfold gafferref05_Bytes.f
 repeat' with_reducible first | apply gafferref01_Number.mono | apply gafferref01_Text.mono | apply gafferref03_Ints.mono | apply LeO.refl | apply LeO.none | apply LeO.ite | refine LeO.bind ?_ (fun _ => ?_)
def gafferref05_Bytes.T1 : Bool × List (List Nat × List Nat) := (true, [([], []), ([0], [0]), ([1], [1]), ([], []), ([3], [3]), ([4, 2], [4]), ([2, 5], [2, 5]), ([], []), ([7], [7]), ([8, 5], [8]), ([6, 9], [6, 9]), ([], []), ([11], [11]), ([12, 9], [12]), ([10, 13], [10, 13]), ([14, 13, 0, 1, 2, 3, 4, 5, 6, 7, 8, 9, 10, 11, 12, 13, 14], [14])])
def gafferref05_Bytes.B1 : List Nat := [0, 1, 3, 0, 8, 31, 63, 0, 128, 447, 1023, 0, 2048, 7103, 16383, 32767]
theorem gafferref05_Bytes.tab1 : rtab .any (opsOf Try.f52 1) = gafferref05_Bytes.T1 := by kernel_rfl
theorem gafferref05_Bytes.bits1 : waitsOk gafferref05_Bytes.T1.2 gafferref05_Bytes.B1 = true := by kernel_rfl
theorem gafferref05_Bytes.calls (k : Nat) (a0_0 : Int) (a0_1 : Int) (A0_2 : Option Addr) (c0_2 : Nat) (l0_2 : List Int) (a0_3 : ByteArray) (r : ByteArray) (w : World) (hr0_2 : Kd.C (Kd.int .i64) w A0_2 l0_2.length l0_2) (hc0_2 : l0_2.length ≤ c0_2) (h : gafferref05_Bytes.f k a0_0 a0_1 l0_2 a0_3 = some r) :
  Calls Try.prog 52 #[.agg #[.int .u64 a0_0, .int .u64 a0_1, .slice A0_2 l0_2.length c0_2, .string a0_3]] w fun e w' => e = .returned (.string r) ∧ Below w.heap.size w w' := by
 have hu_1 := Try.underlying35
 have HR_1 := a_ hr0_2
 have HC_1 := a_ hc0_2
 clear hr0_2 hc0_2
 have HB := a_ (Below.refl w.heap.size w)
 have H := h
 unfold gafferref05_Bytes.f at H
 clear h
 obtain ⟨t_1, A_1, H⟩ := Option.bind_eq_some_iff.mp H
 try dsimp only at H
 have A_2 := a_ A_1
 clear A_1
 obtain ⟨t_2, A_3, H⟩ := Option.bind_eq_some_iff.mp H
 try dsimp only at H
 have A_4 := a_ A_3
 clear A_3
 by_cases c_1 : t_1.size + t_2.size ≤ 9223372036854775807
 rotate_left
 ·rw [if_neg c_1] at H
  exact absurd H (by simp)
 rw [if_pos c_1] at H
 have c_2 := eq_true c_1
 have c_3 : decide (t_1.size + t_2.size ≤ 9223372036854775807) = true := decide_eq_true c_1
 try have c_4 : (9223372036854775807 < t_1.size + t_2.size) = False := eq_false (Nat.not_lt.2 c_1)
 clear c_1
 obtain ⟨t_3, A_5, H⟩ := Option.bind_eq_some_iff.mp H
 try dsimp only at H
 have A_6 := a_ A_5
 clear A_5
 by_cases c_5 : (t_1 ++ t_2).size + t_3.size ≤ 9223372036854775807
 rotate_left
 ·rw [if_neg c_5] at H
  exact absurd H (by simp)
 rw [if_pos c_5] at H
 have c_6 := eq_true c_5
 have c_7 : decide ((t_1 ++ t_2).size + t_3.size ≤ 9223372036854775807) = true := decide_eq_true c_5
 try have c_8 : (9223372036854775807 < (t_1 ++ t_2).size + t_3.size) = False := eq_false (Nat.not_lt.2 c_5)
 clear c_5
 obtain ⟨t_4, A_7, H⟩ := Option.bind_eq_some_iff.mp H
 try dsimp only at H
 have A_8 := a_ A_7
 clear A_7
 by_cases c_9 : ((t_1 ++ t_2) ++ t_3).size + t_4.size ≤ 9223372036854775807
 rotate_left
 ·rw [if_neg c_9] at H
  exact absurd H (by simp)
 rw [if_pos c_9] at H
 have c_10 := eq_true c_9
 have c_11 : decide (((t_1 ++ t_2) ++ t_3).size + t_4.size ≤ 9223372036854775807) = true := decide_eq_true c_9
 try have c_12 : (9223372036854775807 < ((t_1 ++ t_2) ++ t_3).size + t_4.size) = False := eq_false (Nat.not_lt.2 c_9)
 clear c_9
 obtain rfl := Option.some.inj H
 (try (have c_13 := c_6; simp only [ByteArray.size_extract, ByteArray.size_append, Nat.min_self, Nat.sub_zero] at c_13))
 (try (have c_14 := c_7; simp only [ByteArray.size_extract, ByteArray.size_append, Nat.min_self, Nat.sub_zero] at c_14))
 (try (have c_15 := c_8; simp only [ByteArray.size_extract, ByteArray.size_append, Nat.min_self, Nat.sub_zero] at c_15))
 (try (have c_16 := c_10; simp only [ByteArray.size_extract, ByteArray.size_append, Nat.min_self, Nat.sub_zero] at c_16))
 (try (have c_17 := c_11; simp only [ByteArray.size_extract, ByteArray.size_append, Nat.min_self, Nat.sub_zero] at c_17))
 (try (have c_18 := c_12; simp only [ByteArray.size_extract, ByteArray.size_append, Nat.min_self, Nat.sub_zero] at c_18))
 go_enter Try.func52, Try.ntmps52
 try go_wp2_with (first | ((with_reducible refine gd_ 1 ?_); refine bx_ 1 #[.int .u64 a0_0, .int .u64 a0_1, .slice A0_2 l0_2.length c0_2, .string a0_3] 35 ?_; intro gb_1 hg w_1 hbox hb; have BK_1 := a_ (hbox); have GE_1 := a_ (bs_0 hg HB); replace HB := hB_ (bl_ HB) hb; clear hb hbox hg))
 replace BK_1 := a_ (blk_drew BK_1.out)
 replace HB := a_ (below_drew1 HB.out)
 refine start_ (n := 16) (S := fun w' => w'.cell? ⟨gb_1, 0, none⟩ = some (.int .u64 a0_0) ∧ w'.cell? ⟨gb_1, 1, none⟩ = some (.int .u64 a0_1) ∧ w'.cell? ⟨gb_1, 2, none⟩ = some (.slice A0_2 l0_2.length c0_2) ∧ w'.cell? ⟨gb_1, 3, none⟩ = some (.string a0_3)) (ds := []) #[false, false, false, false, false, false, false, false, false, false, false, false, false, false, false, false] (by kernel_rfl) rfl rfl ⟨(blk_cell BK_1.out 0).trans rfl, (blk_cell BK_1.out 1).trans rfl, (blk_cell BK_1.out 2).trans rfl, (blk_cell BK_1.out 3).trans rfl⟩ (fun hHeld => ?_); refine with_tabW gafferref05_Bytes.tab1 gafferref05_Bytes.bits1 (fun HT_ HW_ => ?_)
 generalize w_1.drew = w_2 at BK_1 HB hHeld ⊢
 refine py_ HT_ 0 (some 3) ?_
 refine py_ HT_ 3 (some 6) ?_
 refine py_ HT_ 7 (some 10) ?_
 refine py_ HT_ 11 (some 14) ?_
 refine ty_ HT_ HW_ 1 (some 4) hHeld ?_
 refine ty_ HT_ HW_ 4 (some 7) hHeld ?_
 refine ty_ HT_ HW_ 8 (some 11) hHeld ?_
 refine ty_ HT_ HW_ 12 (some 15) hHeld ?_
 refine on_ HT_ 2 (some 5) (fun K hK => ?_)
 refine goes_ Try.func48 (by kernel_rfl) rfl #[.int .u64 a0_0] (by rfl) rfl rfl (ar_) ?_
 with_reducible refine (gafferref01_Number.calls k a0_0 t_1 _ A_2.out).mono ?_
 rintro e w_3 ⟨rfl, hb⟩
 refine ⟨_, rfl, ?_⟩
 replace BK_1 := bB_ BK_1 hb
 replace HB := hB_ (bl_1 HB GE_1) hb
 clear hb
 refine hK.out _ _ ⟨(blk_cell BK_1.out 0).trans rfl, (blk_cell BK_1.out 1).trans rfl, (blk_cell BK_1.out 2).trans rfl, (blk_cell BK_1.out 3).trans rfl⟩ (fun hHeld => ?_)
 clear hK K
 refine nop_ ?_
 refine on_ HT_ 5 (some 8) (fun K hK => ?_)
 refine goes_ Try.func48 (by kernel_rfl) rfl #[.int .u64 a0_1] (by rfl) rfl rfl (ar_) ?_
 with_reducible refine (gafferref01_Number.calls k a0_1 t_2 _ A_4.out).mono ?_
 rintro e w_4 ⟨rfl, hb⟩
 refine ⟨_, rfl, ?_⟩
 replace BK_1 := bB_ BK_1 hb
 replace HB := hB_ (bl_1 HB GE_1) hb
 clear hb
 refine hK.out _ _ ⟨(blk_cell BK_1.out 0).trans rfl, (blk_cell BK_1.out 1).trans rfl, (blk_cell BK_1.out 2).trans rfl, (blk_cell BK_1.out 3).trans rfl⟩ (fun hHeld => ?_)
 clear hK K
 refine nop_ ?_
 refine py_ HT_ 6 (some 9) ?_
 refine on_ HT_ 9 (some 12) (fun K hK => ?_)
 refine goes_ Try.func77 (by kernel_rfl) rfl #[.slice A0_2 l0_2.length c0_2] (by rfl) rfl rfl (ar_) ?_
 with_reducible refine (gafferref03_Ints.calls k _ _ l0_2 t_3 _ ?side1 ?side2 A_6.out).mono ?_
 (case side1 => exact cl_ (Kd.C_below HR_1.out HB.out))
 (case side2 => exact HC_1.out)
 rintro e w_5 ⟨rfl, hb⟩
 refine ⟨_, rfl, ?_⟩
 replace BK_1 := bB_ BK_1 hb
 replace HB := hB_ (bl_1 HB GE_1) hb
 clear hb
 refine hK.out _ _ ⟨(blk_cell BK_1.out 0).trans rfl, (blk_cell BK_1.out 1).trans rfl, (blk_cell BK_1.out 2).trans rfl, (blk_cell BK_1.out 3).trans rfl⟩ (fun hHeld => ?_)
 clear hK K
 refine nop_ ?_
 refine py_ HT_ 10 (some 13) ?_
 refine on_ HT_ 13 (some 16) (fun K hK => ?_)
 refine goes_ Try.func50 (by kernel_rfl) rfl #[.string a0_3] (by rfl) rfl rfl (ar_) ?_
 with_reducible refine (gafferref01_Text.calls k a0_3 t_4 _ A_8.out).mono ?_
 rintro e w_6 ⟨rfl, hb⟩
 refine ⟨_, rfl, ?_⟩
 replace BK_1 := bB_ BK_1 hb
 replace HB := hB_ (bl_1 HB GE_1) hb
 clear hb
 refine hK.out _ _ ⟨(blk_cell BK_1.out 0).trans rfl, (blk_cell BK_1.out 1).trans rfl, (blk_cell BK_1.out 2).trans rfl, (blk_cell BK_1.out 3).trans rfl⟩ (fun hHeld => ?_)
 clear hK K
 refine nop_ ?_
 refine py_ HT_ 14 (some 17) ?_
 refine py_ HT_ 15 (some 2) ?_
 refine done_ (done_of HT_.out (by kernel_rfl)) ?_
 try go_wp2
 go_ret
 exact ⟨fz_, bl_1 HB GE_1⟩

end Go.Proofs.Ytcdibodjkdoknaa.PM
