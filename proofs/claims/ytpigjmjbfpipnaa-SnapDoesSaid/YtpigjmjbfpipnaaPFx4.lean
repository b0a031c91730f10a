-- By a program of this session.
import Derived.Test.YtpigjmjbfpipnaaPFx0
namespace Go.Proofs.Ytpigjmjbfpipnaa.PF
open Go.RowKit YtpigjmjbfpipnaaW.PrintWords YtpigjmjbfpipnaaW.PrintLast YtpigjmjbfpipnaaW.PrintMore Sh Ytpigjmjbfpipnaa.Op
attribute [local go_sem] max2_int min2_int max_two min_two max_three min_three max_four min_four
set_option linter.unusedVariables false
set_option maxHeartbeats 80000000
set_option maxRecDepth 100000
set_option linter.unusedSimpArgs false
def gafferref03_SameInts.l0 : Nat → List Int → List Int → Int → Int → Option (Bool)
 | 0, _, _, _, _ => none
 | k + 1, x0, x1, x12, x13 => if x13 < x12 then (if 0 ≤ x13 then (if x13 < (x0.length : Int) then (if x13 < (x1.length : Int) then (if (rd x0 x13) = (rd x1 x13) then (gafferref03_SameInts.l0 k x0 x1 x12 (wrap64 (x13 + 1))) else (some false)) else (none)) else (none)) else (none)) else (some true)
def gafferref03_SameInts.f (k : Nat) (l0 : List Int) (l1 : List Int) : Option (Bool) := if (l0.length : Int) = (l1.length : Int) then (gafferref03_SameInts.l0 k l0 l1 (l0.length : Int) 0) else (some false)
theorem gafferref03_SameInts.mono_l : ∀ k, (∀ y0 y1 y2 y3, LeO (gafferref03_SameInts.l0 k y0 y1 y2 y3) (gafferref03_SameInts.l0 (k + 1) y0 y1 y2 y3))
 | 0 => fun _ _ _ _ r h => by simp [gafferref03_SameInts.l0] at h
 | k + 1 => by
  have ih0 := gafferref03_SameInts.mono_l k
  ·intro y0 y1 y2 y3
   unfold gafferref03_SameInts.l0
   repeat' with_reducible first | apply ih0 | apply LeO.refl | apply LeO.none | apply LeO.ite | refine LeO.bind ?_ (fun _ => ?_)
theorem gafferref03_SameInts.mono : ∀ a0 a1 k, LeO (gafferref03_SameInts.f k a0 a1) (gafferref03_SameInts.f (k + 1) a0 a1) := by
 intro a0 a1 k
 have ih0 := gafferref03_SameInts.mono_l k
 unfold gafferref03_SameInts.f
 repeat' with_reducible first | apply ih0 | apply LeO.refl | apply LeO.none | apply LeO.ite | refine LeO.bind ?_ (fun _ => ?_)
theorem gafferref03_SameInts.calls (k : Nat) (A0 : Option Addr) (c0 : Nat) (l0 : List Int) (A1 : Option Addr) (c1 : Nat) (l1 : List Int) (r : Bool) (w : World) (hr0 : Kd.C (Kd.int .i64) w A0 l0.length l0) (hc0 : l0.length ≤ c0) (hr1 : Kd.C (Kd.int .i64) w A1 l1.length l1) (hc1 : l1.length ≤ c1) (h : gafferref03_SameInts.f k l0 l1 = some r) :
  Calls Try.prog 55 #[.slice A0 l0.length c0, .slice A1 l1.length c1] w fun e w' => e = .returned (.bool r) ∧ Drawn0 w w' := by
 have HR0 := a_ hr0
 have HC0 := a_ hc0
 clear hr0 hc0
 have HR1 := a_ hr1
 have HC1 := a_ hc1
 clear hr1 hc1
 have H := h
 unfold gafferref03_SameInts.f at H
 clear h
 by_cases c3 : (l0.length : Int) = (l1.length : Int)
 rotate_left
 ·rw [if_neg c3] at H
  obtain ⟨c3b0, c3b1⟩ := bn_ c3
  have c3b2 : (l0.length == l1.length) = false := by first | simpa using c3 | (simp at c3 ⊢; omega)
  obtain rfl := Option.some.inj H
  go_enter Try.func55, Try.ntmps55
  go_wp2
  repeat (go_quiet (fail); try go_wp2)
  go_ret
  exact ⟨fz_, dr_⟩


 rw [if_pos c3] at H
 obtain ⟨c3b0, c3b1⟩ := be_ c3
 have c3b2 : (l0.length == l1.length) = true := by first | simpa using c3 | (simp at c3 ⊢; omega)
 clear c3
 have H' := a_ H
 clear H
 go_enter Try.func55, Try.ntmps55
 go_wp2
 repeat (go_quiet (fail); try go_wp2)
 go_loopg [13] k (fun kq v13 w' => ∃ (x13_1 : Int), v13 = .int .i64 x13_1 ∧ Aside0 (gafferref03_SameInts.l0 kq l0 l1 (l0.length : Int) x13_1 = some r) ∧ Aside0 (kq ≤ k) ∧ Drawn0 w w')
 case atStart => exact ⟨(0), fz_, H', ⟨Nat.le_refl _⟩, dr_⟩
 case round =>
  clear H'
  try clear c1
  try clear c3
  try clear c3b0
  try clear c3b1
  try clear c3b2
  obtain ⟨x13_1, rfl, HA, HK1, ⟨m1, rfl⟩⟩ := hrel
  cases gk with
  | zero => exact absurd HA.out (by simp [gafferref03_SameInts.l0])
  | succ k1 =>
   have H := HA.out
   clear HA
   simp only [gafferref03_SameInts.l0] at H
   by_cases c4 : x13_1 < (l0.length : Int)
   rotate_left
   ·rw [if_neg c4] at H
    have c4b0 : decide (x13_1 < (l0.length : Int)) = false := decide_eq_false c4
    clear c4
    obtain rfl := Option.some.inj H
    go_wp2
    repeat (go_quiet (fail); try go_wp2)
    go_ret
    exact ⟨fz_, dr_⟩
   rw [if_pos c4] at H
   have c4b0 : decide (x13_1 < (l0.length : Int)) = true := decide_eq_true c4
   clear c4
   replace H := ip_ H
   obtain ⟨-, c5b0, H⟩ := H
   replace H := ip_ H
   obtain ⟨-, c6b0, H⟩ := H
   replace H := ip_ H
   obtain ⟨-, c7b0, H⟩ := H
   by_cases c8 : (rd l0 x13_1) = (rd l1 x13_1)
   rotate_left
   ·rw [if_neg c8] at H
    obtain ⟨c8b0, c8b1⟩ := bn_ c8
    obtain rfl := Option.some.inj H
    have p134 : 0 ≤ (x13_1 : Int) := od_
    have q134 : x13_1 < (l0.length : Int) := od_
    obtain ⟨ad134, e134, hx134_0⟩ := Kd.at_int HR0.out x13_1 p134 q134
    cases e134
    replace p134 := eq_true p134
    replace q134 := eq_true q134
    have p135 : 0 ≤ (x13_1 : Int) := od_
    have q135 : x13_1 < (l1.length : Int) := od_
    obtain ⟨ad135, e135, hx135_0⟩ := Kd.at_int HR1.out x13_1 p135 q135
    cases e135
    replace p135 := eq_true p135
    replace q135 := eq_true q135
    go_wp2
    repeat (go_quiet (fail); try go_wp2)
    go_ret
    exact ⟨fz_, dr_⟩
   rw [if_pos c8] at H
   obtain ⟨c8b0, c8b1⟩ := be_ c8
   clear c8
   have H' := a_ H
   clear H
   have p134 : 0 ≤ (x13_1 : Int) := od_
   have q134 : x13_1 < (l0.length : Int) := od_
   obtain ⟨ad134, e134, hx134_0⟩ := Kd.at_int HR0.out x13_1 p134 q134
   cases e134
   replace p134 := eq_true p134
   replace q134 := eq_true q134
   have p135 : 0 ≤ (x13_1 : Int) := od_
   have q135 : x13_1 < (l1.length : Int) := od_
   obtain ⟨ad135, e135, hx135_0⟩ := Kd.at_int HR1.out x13_1 p135 q135
   cases e135
   replace p135 := eq_true p135
   replace q135 := eq_true q135
   go_wp2
   repeat (go_quiet (fail); try go_wp2)
   go_roundg k1
   case measure => have := HK1.out; omega
   case rel => exact ⟨(wrap64 (x13_1 + 1)), fz_, H', ⟨by have := HK1.out; omega⟩, dr_⟩
def gafferref05_Same.f (k : Nat) (a0_0 : Int) (a0_1 : Int) (l0_2 : List Int) (a0_3 : ByteArray) (a1_0 : Int) (a1_1 : Int) (l1_2 : List Int) (a1_3 : ByteArray) : Option (Bool) := if a0_0 = a1_0 then (if a0_1 = a1_1 then (if a0_3.toList = a1_3.toList then ((gafferref03_SameInts.f k l0_2 l1_2).bind fun t138 => (some t138)) else (some false)) else (some false)) else (some false)
theorem gafferref05_Same.mono : ∀ a0 a1 a2 a3 a4 a5 a6 a7 k, LeO (gafferref05_Same.f k a0 a1 a2 a3 a4 a5 a6 a7) (gafferref05_Same.f (k + 1) a0 a1 a2 a3 a4 a5 a6 a7) := by
 intro a0 a1 a2 a3 a4 a5 a6 a7 k
 unfold gafferref05_Same.f
 repeat' with_reducible first | apply gafferref03_SameInts.mono | apply LeO.refl | apply LeO.none | apply LeO.ite | refine LeO.bind ?_ (fun _ => ?_)
theorem gafferref05_Same.calls (k : Nat) (a0_0 : Int) (a0_1 : Int) (A0_2 : Option Addr) (c0_2 : Nat) (l0_2 : List Int) (a0_3 : ByteArray) (a1_0 : Int) (a1_1 : Int) (A1_2 : Option Addr) (c1_2 : Nat) (l1_2 : List Int) (a1_3 : ByteArray) (r : Bool) (w : World) (hr0_2 : Kd.C (Kd.int .i64) w A0_2 l0_2.length l0_2) (hc0_2 : l0_2.length ≤ c0_2) (hr1_2 : Kd.C (Kd.int .i64) w A1_2 l1_2.length l1_2) (hc1_2 : l1_2.length ≤ c1_2) (h : gafferref05_Same.f k a0_0 a0_1 l0_2 a0_3 a1_0 a1_1 l1_2 a1_3 = some r) :
  Calls Try.prog 30 #[.agg #[.int .u64 a0_0, .int .u64 a0_1, .slice A0_2 l0_2.length c0_2, .string a0_3], .agg #[.int .u64 a1_0, .int .u64 a1_1, .slice A1_2 l1_2.length c1_2, .string a1_3]] w fun e w' => e = .returned (.bool r) ∧ Below w.heap.size w w' := by
 have hu_1 := Try.underlying48
 have HR_1 := a_ hr0_2
 have HC_1 := a_ hc0_2
 clear hr0_2 hc0_2
 have HR_2 := a_ hr1_2
 have HC_2 := a_ hc1_2
 clear hr1_2 hc1_2
 have HB := a_ (Below.refl w.heap.size w)
 have H := h
 unfold gafferref05_Same.f at H
 clear h
 by_cases c_1 : a0_0 = a1_0
 rotate_left
 focus
  rw [if_neg c_1] at H
  obtain ⟨c_2, c_3⟩ := bn_ c_1
  obtain rfl := Option.some.inj H
 rotate_left
 focus
  rw [if_pos c_1] at H
  obtain ⟨c_2, c_3⟩ := be_ c_1
  clear c_1
  by_cases c_4 : a0_1 = a1_1
  rotate_left
  focus
   rw [if_neg c_4] at H
   obtain ⟨c_5, c_6⟩ := bn_ c_4
   obtain rfl := Option.some.inj H
  rotate_left
  focus
   rw [if_pos c_4] at H
   obtain ⟨c_5, c_6⟩ := be_ c_4
   clear c_4
   by_cases c_7 : a0_3.toList = a1_3.toList
   rotate_left
   focus
    rw [if_neg c_7] at H
    obtain ⟨c_8, c_9⟩ := bn_ c_7
    obtain rfl := Option.some.inj H
   rotate_left
   rw [if_pos c_7] at H
   obtain ⟨c_8, c_9⟩ := be_ c_7
   clear c_7
   obtain ⟨t_1, A_2, H⟩ := ob_ H
   try dsimp only at H
   obtain rfl := Option.some.inj H
 all_goals
  go_enter Try.func30, Try.ntmps30
  go_wp2_with (first | ((with_reducible refine gd_ 2 ?_); refine bz_ 2 #[.int .u64 a0_0, .int .u64 a0_1, .slice A0_2 l0_2.length c0_2, .string a0_3] 48 ?_; intro gb_1 hg w_1 BK_1 hb; have GE_1 := a_ (bs_0 hg HB); replace HB := hB_ (bl_ HB) hb; clear hb hg) | ((with_reducible refine gd_ 3 ?_); refine bz_ 3 #[.int .u64 a1_0, .int .u64 a1_1, .slice A1_2 l1_2.length c1_2, .string a1_3] 48 ?_; intro gb_2 hg w_2 BK_2 hb; have GE_2 := a_ (bs_1 hg HB GE_1); replace HB := hB_ (bl_1 HB GE_1) hb; have NB_1 := nB_ hg BK_1; have NB_2 := nC_ hg BK_1; replace BK_1 := bB_ BK_1 hb; clear hb hg; have := NB_1.out; have := NB_2.out; obtain ⟨_, _, _, _, _, _, _, _⟩ := c4_ BK_1; obtain ⟨_, _, _, _, _, _, _, _⟩ := c4_ BK_2) | (go_at_call 55; (with_reducible refine (gafferref03_SameInts.calls _ _ _ _ _ _ _ _ _ ?side1 ?side2 ?side3 ?side4 A_2.out).mono ?_); (case side1 => exact cl_ (Kd.C_below HR_1.out HB.out)); (case side2 => exact HC_1.out); (case side3 => exact cl_ (Kd.C_below HR_2.out HB.out)); (case side4 => exact HC_2.out); rintro e w' ⟨rfl, ⟨nd, rfl⟩⟩))
  go_ret
  exact ⟨fz_, bl_2 HB GE_1 GE_2⟩

def disk_Check.l0 : Nat → Bool → List (S71) → Int → Int → List (S71) → Bool → Int → Option (Int)
 | 0, _, _, _, _, _, _, _ => none
 | k + 1, x3, x7, x8, x9, x140000, x140001, x140002 => if x9 < x8 then (if 0 ≤ x9 then (if x9 < (x7.length : Int) then (if x3 = true then (if x9 = 0 then (if ((rd_T71 x7 x9).f2) ≥ 0 then (disk_Check.l0 k (decide (((rd_T71 x7 x9).f2) ≤ (((rd_T71 x7 x9).f1).size : Int))) x7 x8 (wrap64 (x9 + 1)) x140000 x140001 x140002) else (disk_Check.l0 k false x7 x8 (wrap64 (x9 + 1)) x140000 x140001 x140002)) else (if 0 ≤ (wrap64 (x9 - 1)) then (if (wrap64 (x9 - 1)) < (x140000.length : Int) then (if (Op.bytesLess (((rd_T71 x140000 (wrap64 (x9 - 1))).f0).toList) (((rd_T71 x7 x9).f0).toList)) = true then (if ((rd_T71 x7 x9).f2) ≥ 0 then (disk_Check.l0 k (decide (((rd_T71 x7 x9).f2) ≤ (((rd_T71 x7 x9).f1).size : Int))) x7 x8 (wrap64 (x9 + 1)) x140000 x140001 x140002) else (disk_Check.l0 k false x7 x8 (wrap64 (x9 + 1)) x140000 x140001 x140002)) else (disk_Check.l0 k false x7 x8 (wrap64 (x9 + 1)) x140000 x140001 x140002)) else (none)) else (none))) else (disk_Check.l0 k false x7 x8 (wrap64 (x9 + 1)) x140000 x140001 x140002)) else (none)) else (none)) else (if x3 = true then (if (x140000.length : Int) > 4096 then (some 10) else (some 0)) else (some 10))
def disk_Check.f (k : Nat) (l0_0 : List (S71)) (a0_1 : Bool) (a0_2 : Int) : Option (Int) := disk_Check.l0 k true l0_0 (l0_0.length : Int) 0 l0_0 a0_1 a0_2
theorem disk_Check.mono_l : ∀ k, (∀ y0 y1 y2 y3 y4 y5 y6, LeO (disk_Check.l0 k y0 y1 y2 y3 y4 y5 y6) (disk_Check.l0 (k + 1) y0 y1 y2 y3 y4 y5 y6))
 | 0 => fun _ _ _ _ _ _ _ r h => by simp [disk_Check.l0] at h
 | k + 1 => by
  have ih0 := disk_Check.mono_l k
  ·intro y0 y1 y2 y3 y4 y5 y6
   unfold disk_Check.l0
   repeat' with_reducible first | apply ih0 | apply LeO.refl | apply LeO.none | apply LeO.ite | refine LeO.bind ?_ (fun _ => ?_)
theorem disk_Check.mono : ∀ a0 a1 a2 k, LeO (disk_Check.f k a0 a1 a2) (disk_Check.f (k + 1) a0 a1 a2) := by
 intro a0 a1 a2 k
 have ih0 := disk_Check.mono_l k
 unfold disk_Check.f
 repeat' with_reducible first | apply ih0 | apply LeO.refl | apply LeO.none | apply LeO.ite | refine LeO.bind ?_ (fun _ => ?_)
theorem disk_Check.calls (k : Nat) (A0_0 : Option Addr) (c0_0 : Nat) (l0_0 : List (S71)) (a0_1 : Bool) (a0_2 : Int) (r : Int) (w : World) (hr0_0 : Kd.C k71 w A0_0 l0_0.length l0_0) (hc0_0 : l0_0.length ≤ c0_0) (h : disk_Check.f k l0_0 a0_1 a0_2 = some r) :
  Calls Try.prog 37 #[.agg #[.slice A0_0 l0_0.length c0_0, .bool a0_1, .int .i64 a0_2]] w fun e w' => e = .returned (.int .i64 r) ∧ Below w.heap.size w w' := by
 have hu_1 := Try.underlying24
 have hu_2 := Try.underlying71
 have HR_1 := a_ hr0_0
 have HC_1 := a_ hc0_0
 clear hr0_0 hc0_0
 have HB := a_ (Below.refl w.heap.size w)
 have H := h
 unfold disk_Check.f at H
 clear h
 have H' := a_ H
 clear H
 go_enter Try.func37, Try.ntmps37
 go_wp2_with (first | ((with_reducible refine gd_ 1 ?_); (try (refine gate_guard (by rfl) ?_; dsimp only)); refine bz_ 1 #[.slice A0_0 l0_0.length c0_0, .bool a0_1, .int .i64 a0_2] 24 ?_; intro gb_1 hg w_1 BK_1 hb; have GE_1 := a_ (bs_0 hg HB); replace HB := hB_ (bl_ HB) hb; clear hb hg; obtain ⟨_, _, _, _, _, _⟩ := c3_ BK_1) | go_quiet (first | ((with_reducible refine gd_ 1 ?_); (try (refine gate_guard (by rfl) ?_; dsimp only)); refine bz_ 1 #[.slice A0_0 l0_0.length c0_0, .bool a0_1, .int .i64 a0_2] 24 ?_; intro gb_1 hg w_1 BK_1 hb; have GE_1 := a_ (bs_0 hg HB); replace HB := hB_ (bl_ HB) hb; clear hb hg; obtain ⟨_, _, _, _, _, _⟩ := c3_ BK_1)))
 go_loopg [3, 9] k (fun kq v3 v9 w' => ∃ (x3_1 : Bool) (x9_1 : Int), v3 = .bool x3_1 ∧ v9 = .int .i64 x9_1 ∧ Aside0 (disk_Check.l0 kq x3_1 l0_0 (l0_0.length : Int) x9_1 l0_0 a0_1 a0_2 = some r) ∧ Aside0 (kq ≤ k) ∧ Aside0 (w'.heap[gb_1]? = some (.cells #[(.slice A0_0 l0_0.length c0_0), .bool a0_1, .int .i64 a0_2] 24 (0, 0))) ∧ Aside0 (Below w.heap.size w w'))
 case atStart => exact ⟨(true), (0), fz_, fz_, H', ⟨Nat.le_refl _⟩, ⟨bk_ BK_1⟩, ⟨bl_1 HB GE_1⟩⟩
 case round =>
  clear H'
  obtain ⟨x_1, x_2, rfl, rfl, HA, HK_1, BK_1, HB⟩ := hrel
  cases gk with
  | zero => exact absurd HA.out (by simp [disk_Check.l0])
  | succ k1 =>
   have H := HA.out
   clear HA
   simp only [disk_Check.l0] at H
   by_cases c_1 : x_2 < (l0_0.length : Int)
   rotate_left
   ·rw [if_neg c_1] at H
    have c_2 : decide (x_2 < (l0_0.length : Int)) = false := decide_eq_false c_1
    clear c_1
    by_cases c_3 : x_1 = true
    rotate_left
    ·replace c_3 := Bool.eq_false_iff.mpr c_3
     subst c_3
     rw [if_neg (show ¬ (false = true) by decide)] at H
     obtain rfl := Option.some.inj H
     go_wp2
     repeat (go_quiet (fail); try go_wp2)
     go_ret
     exact ⟨fz_, bl_1 HB GE_1⟩
    subst c_3
    rw [if_pos rfl] at H
    by_cases c_4 : (l0_0.length : Int) > 4096
    ·rw [if_pos c_4] at H
     have c_5 : decide (4096 < (l0_0.length : Int)) = true := decide_eq_true c_4
     have c_6 : decide (4096 < l0_0.length) = true := decide_eq_true (by omega)
     clear c_4
     obtain rfl := Option.some.inj H
     obtain ⟨_, _, _, _, _, _⟩ := c3_ BK_1
     go_wp2
     repeat (go_quiet (fail); try go_wp2)
     go_ret
     exact ⟨fz_, bl_1 HB GE_1⟩
    rw [if_neg c_4] at H
    have c_5 : decide (4096 < (l0_0.length : Int)) = false := decide_eq_false c_4
    have c_6 : decide (4096 < l0_0.length) = false := decide_eq_false (by omega)
    clear c_4
    obtain rfl := Option.some.inj H
    obtain ⟨_, _, _, _, _, _⟩ := c3_ BK_1
    go_wp2
    repeat (go_quiet (fail); try go_wp2)
    go_ret
    exact ⟨fz_, bl_1 HB GE_1⟩
   rw [if_pos c_1] at H
   have c_2 : decide (x_2 < (l0_0.length : Int)) = true := decide_eq_true c_1
   clear c_1
   replace H := ip_ H
   obtain ⟨-, c_8, H⟩ := H
   replace H := ip_ H
   obtain ⟨-, c_10, H⟩ := H
   by_cases c_11 : x_1 = true
   rotate_left
   ·replace c_11 := Bool.eq_false_iff.mpr c_11
    subst c_11
    rw [if_neg (show ¬ (false = true) by decide)] at H
    have H' := a_ H
    clear H
    have p_1 : 0 ≤ (x_2 : Int) := od_
    have q_1 : x_2 < (l0_0.length : Int) := od_
    obtain ⟨ad_1, e_1, hx_1, hx_2, hx_3⟩ := at_T71 HR_1.out x_2 p_1 q_1
    cases e_1
    replace hx_1 := hc_ HB hx_1
    replace hx_2 := hc_ HB hx_2
    replace hx_3 := hc_ HB hx_3
    replace p_1 := eq_true p_1
    replace q_1 := eq_true q_1
    go_wp2_with (first | ((with_reducible refine gd_ 5 ?_); (try (refine gate_guard (by rfl) ?_; dsimp only)); refine bz_ 5 #[.string (⟨#[]⟩ : ByteArray), .string (⟨#[]⟩ : ByteArray), .int .i64 0] 71 ?_; intro gb_2 hg w_2 BK_2 hb; have GW_1 := a_ (bs_1 hg HB GE_1); have GE_2 := a_ (bs_1 hg HB GE_1); replace HB := hB_ (bl_1 HB GE_1) hb; have NB_1 := nB_ hg BK_1; have NB_2 := nC_ hg BK_1; replace BK_1 := bB_ BK_1 hb; clear hb hg; have := NB_2.out; have := NB_1.out; obtain ⟨_, _, _, _, _, _⟩ := c3_ BK_2) | go_quiet (first | ((with_reducible refine gd_ 5 ?_); (try (refine gate_guard (by rfl) ?_; dsimp only)); refine bz_ 5 #[.string (⟨#[]⟩ : ByteArray), .string (⟨#[]⟩ : ByteArray), .int .i64 0] 71 ?_; intro gb_2 hg w_2 BK_2 hb; have GW_1 := a_ (bs_1 hg HB GE_1); have GE_2 := a_ (bs_1 hg HB GE_1); replace HB := hB_ (bl_1 HB GE_1) hb; have NB_1 := nB_ hg BK_1; have NB_2 := nC_ hg BK_1; replace BK_1 := bB_ BK_1 hb; clear hb hg; have := NB_2.out; have := NB_1.out; obtain ⟨_, _, _, _, _, _⟩ := c3_ BK_2)))
    go_roundg k1
    case measure => have := HK_1.out; omega
    case rel => exact ⟨(false), (wrap64 (x_2 + 1)), fz_, fz_, H', ⟨by have := HK_1.out; omega⟩, ⟨by refine bq_ ?_; refine blk_far ?_ NB_1.out _; refine bq_ ?_; refine blk_far ?_ NB_1.out _; refine bq_ ?_; refine blk_far ?_ NB_1.out _; refine bq_ ?_; exact BK_1.out⟩, ⟨bl_2 HB GE_1 GE_2⟩⟩
   subst c_11
   rw [if_pos rfl] at H
   by_cases c_12 : x_2 = 0
   ·rw [if_pos c_12] at H
    obtain ⟨c_13, c_14⟩ := be_ c_12
    clear c_12
    by_cases c_15 : ((rd_T71 l0_0 x_2).f2) ≥ 0
    rotate_left
    ·rw [if_neg c_15] at H
     have c_16 : decide (0 ≤ ((rd_T71 l0_0 x_2).f2)) = false := decide_eq_false c_15
     clear c_15
     have H' := a_ H
     clear H
     have p_1 : 0 ≤ (x_2 : Int) := od_
     have q_1 : x_2 < (l0_0.length : Int) := od_
     obtain ⟨ad_1, e_1, hx_1, hx_2, hx_3⟩ := at_T71 HR_1.out x_2 p_1 q_1
     cases e_1
     replace hx_1 := hc_ HB hx_1
     replace hx_2 := hc_ HB hx_2
     replace hx_3 := hc_ HB hx_3
     replace p_1 := eq_true p_1
     replace q_1 := eq_true q_1
     go_wp2_with (first | ((with_reducible refine gd_ 5 ?_); (try (refine gate_guard (by rfl) ?_; dsimp only)); refine bz_ 5 #[.string (⟨#[]⟩ : ByteArray), .string (⟨#[]⟩ : ByteArray), .int .i64 0] 71 ?_; intro gb_2 hg w_3 BK_2 hb; have GW_1 := a_ (bs_1 hg HB GE_1); have GE_2 := a_ (bs_1 hg HB GE_1); replace HB := hB_ (bl_1 HB GE_1) hb; have NB_1 := nB_ hg BK_1; have NB_2 := nC_ hg BK_1; replace BK_1 := bB_ BK_1 hb; clear hb hg; have := NB_2.out; have := NB_1.out; obtain ⟨_, _, _, _, _, _⟩ := c3_ BK_2) | go_quiet (first | ((with_reducible refine gd_ 5 ?_); (try (refine gate_guard (by rfl) ?_; dsimp only)); refine bz_ 5 #[.string (⟨#[]⟩ : ByteArray), .string (⟨#[]⟩ : ByteArray), .int .i64 0] 71 ?_; intro gb_2 hg w_3 BK_2 hb; have GW_1 := a_ (bs_1 hg HB GE_1); have GE_2 := a_ (bs_1 hg HB GE_1); replace HB := hB_ (bl_1 HB GE_1) hb; have NB_1 := nB_ hg BK_1; have NB_2 := nC_ hg BK_1; replace BK_1 := bB_ BK_1 hb; clear hb hg; have := NB_2.out; have := NB_1.out; obtain ⟨_, _, _, _, _, _⟩ := c3_ BK_2)))
     go_roundg k1
     case measure => have := HK_1.out; omega
     case rel => exact ⟨(false), (wrap64 (x_2 + 1)), fz_, fz_, H', ⟨by have := HK_1.out; omega⟩, ⟨by refine bq_ ?_; refine blk_far ?_ NB_1.out _; refine bq_ ?_; refine blk_far ?_ NB_1.out _; refine bq_ ?_; refine blk_far ?_ NB_1.out _; refine bq_ ?_; exact BK_1.out⟩, ⟨bl_2 HB GE_1 GE_2⟩⟩
    rw [if_pos c_15] at H
    have c_16 : decide (0 ≤ ((rd_T71 l0_0 x_2).f2)) = true := decide_eq_true c_15
    clear c_15
    have H' := a_ H
    clear H
    have p_1 : 0 ≤ (x_2 : Int) := od_
    have q_1 : x_2 < (l0_0.length : Int) := od_
    obtain ⟨ad_1, e_1, hx_1, hx_2, hx_3⟩ := at_T71 HR_1.out x_2 p_1 q_1
    cases e_1
    replace hx_1 := hc_ HB hx_1
    replace hx_2 := hc_ HB hx_2
    replace hx_3 := hc_ HB hx_3
    replace p_1 := eq_true p_1
    replace q_1 := eq_true q_1
    go_wp2_with (first | ((with_reducible refine gd_ 5 ?_); (try (refine gate_guard (by rfl) ?_; dsimp only)); refine bz_ 5 #[.string (⟨#[]⟩ : ByteArray), .string (⟨#[]⟩ : ByteArray), .int .i64 0] 71 ?_; intro gb_2 hg w_4 BK_2 hb; have GW_1 := a_ (bs_1 hg HB GE_1); have GE_2 := a_ (bs_1 hg HB GE_1); replace HB := hB_ (bl_1 HB GE_1) hb; have NB_1 := nB_ hg BK_1; have NB_2 := nC_ hg BK_1; replace BK_1 := bB_ BK_1 hb; clear hb hg; have := NB_2.out; have := NB_1.out; obtain ⟨_, _, _, _, _, _⟩ := c3_ BK_2) | go_quiet (first | ((with_reducible refine gd_ 5 ?_); (try (refine gate_guard (by rfl) ?_; dsimp only)); refine bz_ 5 #[.string (⟨#[]⟩ : ByteArray), .string (⟨#[]⟩ : ByteArray), .int .i64 0] 71 ?_; intro gb_2 hg w_4 BK_2 hb; have GW_1 := a_ (bs_1 hg HB GE_1); have GE_2 := a_ (bs_1 hg HB GE_1); replace HB := hB_ (bl_1 HB GE_1) hb; have NB_1 := nB_ hg BK_1; have NB_2 := nC_ hg BK_1; replace BK_1 := bB_ BK_1 hb; clear hb hg; have := NB_2.out; have := NB_1.out; obtain ⟨_, _, _, _, _, _⟩ := c3_ BK_2)))
    go_roundg k1
    case measure => have := HK_1.out; omega
    case rel => exact ⟨(decide (((rd_T71 l0_0 x_2).f2) ≤ (((rd_T71 l0_0 x_2).f1).size : Int))), (wrap64 (x_2 + 1)), fz_, fz_, H', ⟨by have := HK_1.out; omega⟩, ⟨by refine bq_ ?_; refine blk_far ?_ NB_1.out _; refine bq_ ?_; refine blk_far ?_ NB_1.out _; refine bq_ ?_; refine blk_far ?_ NB_1.out _; refine bq_ ?_; exact BK_1.out⟩, ⟨bl_2 HB GE_1 GE_2⟩⟩
   rw [if_neg c_12] at H
   obtain ⟨c_13, c_14⟩ := bn_ c_12
   obtain ⟨ji_1, hji_1⟩ : ∃ j_ : Int, (wrap64 (x_2 - 1)) = j_ := ⟨_, rfl⟩
   replace H : (if 0 ≤ (ji_1) then (if (ji_1) < (l0_0.length : Int) then (if (Op.bytesLess (((rd_T71 l0_0 (ji_1)).f0).toList) (((rd_T71 l0_0 x_2).f0).toList)) = true then (if ((rd_T71 l0_0 x_2).f2) ≥ 0 then (disk_Check.l0 k1 (decide (((rd_T71 l0_0 x_2).f2) ≤ (((rd_T71 l0_0 x_2).f1).size : Int))) l0_0 (l0_0.length : Int) (wrap64 (x_2 + 1)) l0_0 a0_1 a0_2) else (disk_Check.l0 k1 false l0_0 (l0_0.length : Int) (wrap64 (x_2 + 1)) l0_0 a0_1 a0_2)) else (disk_Check.l0 k1 false l0_0 (l0_0.length : Int) (wrap64 (x_2 + 1)) l0_0 a0_1 a0_2)) else (none)) else (none)) = some r := by first | (rw [hji_1] at H; exact H) | (simp only [hji_1] at H ⊢; exact H)
   have hji_2 : (IntKind.i64.wrap (x_2 - 1)) = ji_1 := (i64_w _).trans hji_1
   replace H := ip_ H
   obtain ⟨-, c_18, H⟩ := H
   replace H := ip_ H
   obtain ⟨-, c_20, H⟩ := H
   by_cases c_21 : (Op.bytesLess (((rd_T71 l0_0 (ji_1)).f0).toList) (((rd_T71 l0_0 x_2).f0).toList)) = true
   rotate_left
   ·rw [if_neg c_21] at H
    have c_22 : (Op.bytesLess (((rd_T71 l0_0 (ji_1)).f0).toList) (((rd_T71 l0_0 x_2).f0).toList)) = false := by simpa using c_21
    clear c_21
    have H' := a_ H
    clear H
    have p_1 : 0 ≤ (x_2 : Int) := od_
    have q_1 : x_2 < (l0_0.length : Int) := od_
    obtain ⟨ad_1, e_1, hx_1, hx_2, hx_3⟩ := at_T71 HR_1.out x_2 p_1 q_1
    cases e_1
    replace hx_1 := hc_ HB hx_1
    replace hx_2 := hc_ HB hx_2
    replace hx_3 := hc_ HB hx_3
    replace p_1 := eq_true p_1
    replace q_1 := eq_true q_1
    go_wp2_with (first | ((with_reducible refine gd_ 5 ?_); (try (refine gate_guard (by rfl) ?_; dsimp only)); refine bz_ 5 #[.string (⟨#[]⟩ : ByteArray), .string (⟨#[]⟩ : ByteArray), .int .i64 0] 71 ?_; intro gb_2 hg w_5 BK_2 hb; have GW_1 := a_ (bs_1 hg HB GE_1); have GE_2 := a_ (bs_1 hg HB GE_1); replace HB := hB_ (bl_1 HB GE_1) hb; have NB_1 := nB_ hg BK_1; have NB_2 := nC_ hg BK_1; replace BK_1 := bB_ BK_1 hb; clear hb hg; have := NB_2.out; have := NB_1.out; obtain ⟨_, _, _, _, _, _⟩ := c3_ BK_2; obtain ⟨_, _, _, _, _, _⟩ := c3_ BK_1; have p_2 : 0 ≤ ((ji_1) : Int) := od_; have q_2 : (ji_1) < (l0_0.length : Int) := od_; obtain ⟨ad_2, e_2, hx_4, hx_5, hx_6⟩ := at_T71 HR_1.out (ji_1) p_2 q_2; obtain rfl : ad_1 = ad_2 := (by injection e_2); have hn_1 : ad_1.block ≠ gb_2 := Nat.ne_of_lt (Nat.lt_of_lt_of_le (by have := World.block_lt_of_cell? _ _ hx_4; first | rwa [add_block] at this | exact this) GW_1.out); have hn_2 : ad_1.block ≠ gb_2 := Nat.ne_of_lt (Nat.lt_of_lt_of_le (by have := World.block_lt_of_cell? _ _ hx_4; first | rwa [add_block] at this | exact this) GW_1.out); have hn_3 : ad_1.block ≠ gb_2 := Nat.ne_of_lt (Nat.lt_of_lt_of_le (by have := World.block_lt_of_cell? _ _ hx_4; first | rwa [add_block] at this | exact this) GW_1.out); replace hx_4 := (HB.out.cell (World.block_lt_of_cell? w _ hx_4)).trans hx_4; replace hx_5 := (HB.out.cell (World.block_lt_of_cell? w _ hx_5)).trans hx_5; replace hx_6 := (HB.out.cell (World.block_lt_of_cell? w _ hx_6)).trans hx_6; replace hx_4 := (cf_ (p := ⟨gb_2, 0, none⟩) hn_1 (.string ((rd_T71 l0_0 x_2).f0))).trans hx_4; replace hx_5 := (cf_ (p := ⟨gb_2, 0, none⟩) hn_1 (.string ((rd_T71 l0_0 x_2).f0))).trans hx_5; replace hx_6 := (cf_ (p := ⟨gb_2, 0, none⟩) hn_1 (.string ((rd_T71 l0_0 x_2).f0))).trans hx_6; replace hx_4 := (cf_ (p := ⟨gb_2, 1, none⟩) hn_2 (.string ((rd_T71 l0_0 x_2).f1))).trans hx_4; replace hx_5 := (cf_ (p := ⟨gb_2, 1, none⟩) hn_2 (.string ((rd_T71 l0_0 x_2).f1))).trans hx_5; replace hx_6 := (cf_ (p := ⟨gb_2, 1, none⟩) hn_2 (.string ((rd_T71 l0_0 x_2).f1))).trans hx_6; replace hx_4 := (cf_ (p := ⟨gb_2, 2, none⟩) hn_3 (.int .i64 ((rd_T71 l0_0 x_2).f2))).trans hx_4; replace hx_5 := (cf_ (p := ⟨gb_2, 2, none⟩) hn_3 (.int .i64 ((rd_T71 l0_0 x_2).f2))).trans hx_5; replace hx_6 := (cf_ (p := ⟨gb_2, 2, none⟩) hn_3 (.int .i64 ((rd_T71 l0_0 x_2).f2))).trans hx_6; (try have hy_1 := fun (n_ : Nat) => (show (((((w_5.drewN n_).setCell ⟨gb_2, 0, none⟩ (.string ((rd_T71 l0_0 x_2).f0))).setCell ⟨gb_2, 1, none⟩ (.string ((rd_T71 l0_0 x_2).f1))).setCell ⟨gb_2, 2, none⟩ (.int .i64 ((rd_T71 l0_0 x_2).f2)))).cell? _ = some _ from hx_4)); (try have hy_2 := fun (n_ : Nat) => (show (((((w_5.drewN n_).setCell ⟨gb_2, 0, none⟩ (.string ((rd_T71 l0_0 x_2).f0))).setCell ⟨gb_2, 1, none⟩ (.string ((rd_T71 l0_0 x_2).f1))).setCell ⟨gb_2, 2, none⟩ (.int .i64 ((rd_T71 l0_0 x_2).f2)))).cell? _ = some _ from hx_5)); (try have hy_3 := fun (n_ : Nat) => (show (((((w_5.drewN n_).setCell ⟨gb_2, 0, none⟩ (.string ((rd_T71 l0_0 x_2).f0))).setCell ⟨gb_2, 1, none⟩ (.string ((rd_T71 l0_0 x_2).f1))).setCell ⟨gb_2, 2, none⟩ (.int .i64 ((rd_T71 l0_0 x_2).f2)))).cell? _ = some _ from hx_6)); clear hn_1; clear hn_2; clear hn_3; replace p_2 := eq_true p_2; replace q_2 := eq_true q_2) | go_quiet (first | ((with_reducible refine gd_ 5 ?_); (try (refine gate_guard (by rfl) ?_; dsimp only)); refine bz_ 5 #[.string (⟨#[]⟩ : ByteArray), .string (⟨#[]⟩ : ByteArray), .int .i64 0] 71 ?_; intro gb_2 hg w_5 BK_2 hb; have GW_1 := a_ (bs_1 hg HB GE_1); have GE_2 := a_ (bs_1 hg HB GE_1); replace HB := hB_ (bl_1 HB GE_1) hb; have NB_1 := nB_ hg BK_1; have NB_2 := nC_ hg BK_1; replace BK_1 := bB_ BK_1 hb; clear hb hg; have := NB_2.out; have := NB_1.out; obtain ⟨_, _, _, _, _, _⟩ := c3_ BK_2; obtain ⟨_, _, _, _, _, _⟩ := c3_ BK_1; have p_2 : 0 ≤ ((ji_1) : Int) := od_; have q_2 : (ji_1) < (l0_0.length : Int) := od_; obtain ⟨ad_2, e_2, hx_4, hx_5, hx_6⟩ := at_T71 HR_1.out (ji_1) p_2 q_2; obtain rfl : ad_1 = ad_2 := (by injection e_2); have hn_1 : ad_1.block ≠ gb_2 := Nat.ne_of_lt (Nat.lt_of_lt_of_le (by have := World.block_lt_of_cell? _ _ hx_4; first | rwa [add_block] at this | exact this) GW_1.out); have hn_2 : ad_1.block ≠ gb_2 := Nat.ne_of_lt (Nat.lt_of_lt_of_le (by have := World.block_lt_of_cell? _ _ hx_4; first | rwa [add_block] at this | exact this) GW_1.out); have hn_3 : ad_1.block ≠ gb_2 := Nat.ne_of_lt (Nat.lt_of_lt_of_le (by have := World.block_lt_of_cell? _ _ hx_4; first | rwa [add_block] at this | exact this) GW_1.out); replace hx_4 := (HB.out.cell (World.block_lt_of_cell? w _ hx_4)).trans hx_4; replace hx_5 := (HB.out.cell (World.block_lt_of_cell? w _ hx_5)).trans hx_5; replace hx_6 := (HB.out.cell (World.block_lt_of_cell? w _ hx_6)).trans hx_6; replace hx_4 := (cf_ (p := ⟨gb_2, 0, none⟩) hn_1 (.string ((rd_T71 l0_0 x_2).f0))).trans hx_4; replace hx_5 := (cf_ (p := ⟨gb_2, 0, none⟩) hn_1 (.string ((rd_T71 l0_0 x_2).f0))).trans hx_5; replace hx_6 := (cf_ (p := ⟨gb_2, 0, none⟩) hn_1 (.string ((rd_T71 l0_0 x_2).f0))).trans hx_6; replace hx_4 := (cf_ (p := ⟨gb_2, 1, none⟩) hn_2 (.string ((rd_T71 l0_0 x_2).f1))).trans hx_4; replace hx_5 := (cf_ (p := ⟨gb_2, 1, none⟩) hn_2 (.string ((rd_T71 l0_0 x_2).f1))).trans hx_5; replace hx_6 := (cf_ (p := ⟨gb_2, 1, none⟩) hn_2 (.string ((rd_T71 l0_0 x_2).f1))).trans hx_6; replace hx_4 := (cf_ (p := ⟨gb_2, 2, none⟩) hn_3 (.int .i64 ((rd_T71 l0_0 x_2).f2))).trans hx_4; replace hx_5 := (cf_ (p := ⟨gb_2, 2, none⟩) hn_3 (.int .i64 ((rd_T71 l0_0 x_2).f2))).trans hx_5; replace hx_6 := (cf_ (p := ⟨gb_2, 2, none⟩) hn_3 (.int .i64 ((rd_T71 l0_0 x_2).f2))).trans hx_6; (try have hy_1 := fun (n_ : Nat) => (show (((((w_5.drewN n_).setCell ⟨gb_2, 0, none⟩ (.string ((rd_T71 l0_0 x_2).f0))).setCell ⟨gb_2, 1, none⟩ (.string ((rd_T71 l0_0 x_2).f1))).setCell ⟨gb_2, 2, none⟩ (.int .i64 ((rd_T71 l0_0 x_2).f2)))).cell? _ = some _ from hx_4)); (try have hy_2 := fun (n_ : Nat) => (show (((((w_5.drewN n_).setCell ⟨gb_2, 0, none⟩ (.string ((rd_T71 l0_0 x_2).f0))).setCell ⟨gb_2, 1, none⟩ (.string ((rd_T71 l0_0 x_2).f1))).setCell ⟨gb_2, 2, none⟩ (.int .i64 ((rd_T71 l0_0 x_2).f2)))).cell? _ = some _ from hx_5)); (try have hy_3 := fun (n_ : Nat) => (show (((((w_5.drewN n_).setCell ⟨gb_2, 0, none⟩ (.string ((rd_T71 l0_0 x_2).f0))).setCell ⟨gb_2, 1, none⟩ (.string ((rd_T71 l0_0 x_2).f1))).setCell ⟨gb_2, 2, none⟩ (.int .i64 ((rd_T71 l0_0 x_2).f2)))).cell? _ = some _ from hx_6)); clear hn_1; clear hn_2; clear hn_3; replace p_2 := eq_true p_2; replace q_2 := eq_true q_2)))
    go_roundg k1
    case measure => have := HK_1.out; omega
    case rel => exact ⟨(false), (wrap64 (x_2 + 1)), fz_, fz_, H', ⟨by have := HK_1.out; omega⟩, ⟨by refine bq_ ?_; refine blk_far ?_ NB_1.out _; refine bq_ ?_; refine blk_far ?_ NB_1.out _; refine bq_ ?_; refine blk_far ?_ NB_1.out _; refine bq_ ?_; exact BK_1.out⟩, ⟨bl_2 HB GE_1 GE_2⟩⟩
   rw [if_pos c_21] at H
   have c_22 : (Op.bytesLess (((rd_T71 l0_0 (ji_1)).f0).toList) (((rd_T71 l0_0 x_2).f0).toList)) = true := c_21
   clear c_21
   by_cases c_23 : ((rd_T71 l0_0 x_2).f2) ≥ 0
   rotate_left
   ·rw [if_neg c_23] at H
    have c_24 : decide (0 ≤ ((rd_T71 l0_0 x_2).f2)) = false := decide_eq_false c_23
    clear c_23
    have H' := a_ H
    clear H
    have p_1 : 0 ≤ (x_2 : Int) := od_
    have q_1 : x_2 < (l0_0.length : Int) := od_
    obtain ⟨ad_1, e_1, hx_1, hx_2, hx_3⟩ := at_T71 HR_1.out x_2 p_1 q_1
    cases e_1
    replace hx_1 := hc_ HB hx_1
    replace hx_2 := hc_ HB hx_2
    replace hx_3 := hc_ HB hx_3
    replace p_1 := eq_true p_1
    replace q_1 := eq_true q_1
    go_wp2_with (first | ((with_reducible refine gd_ 5 ?_); (try (refine gate_guard (by rfl) ?_; dsimp only)); refine bz_ 5 #[.string (⟨#[]⟩ : ByteArray), .string (⟨#[]⟩ : ByteArray), .int .i64 0] 71 ?_; intro gb_2 hg w_6 BK_2 hb; have GW_1 := a_ (bs_1 hg HB GE_1); have GE_2 := a_ (bs_1 hg HB GE_1); replace HB := hB_ (bl_1 HB GE_1) hb; have NB_1 := nB_ hg BK_1; have NB_2 := nC_ hg BK_1; replace BK_1 := bB_ BK_1 hb; clear hb hg; have := NB_2.out; have := NB_1.out; obtain ⟨_, _, _, _, _, _⟩ := c3_ BK_2; obtain ⟨_, _, _, _, _, _⟩ := c3_ BK_1; have p_2 : 0 ≤ ((ji_1) : Int) := od_; have q_2 : (ji_1) < (l0_0.length : Int) := od_; obtain ⟨ad_2, e_2, hx_4, hx_5, hx_6⟩ := at_T71 HR_1.out (ji_1) p_2 q_2; obtain rfl : ad_1 = ad_2 := (by injection e_2); have hn_1 : ad_1.block ≠ gb_2 := Nat.ne_of_lt (Nat.lt_of_lt_of_le (by have := World.block_lt_of_cell? _ _ hx_4; first | rwa [add_block] at this | exact this) GW_1.out); have hn_2 : ad_1.block ≠ gb_2 := Nat.ne_of_lt (Nat.lt_of_lt_of_le (by have := World.block_lt_of_cell? _ _ hx_4; first | rwa [add_block] at this | exact this) GW_1.out); have hn_3 : ad_1.block ≠ gb_2 := Nat.ne_of_lt (Nat.lt_of_lt_of_le (by have := World.block_lt_of_cell? _ _ hx_4; first | rwa [add_block] at this | exact this) GW_1.out); replace hx_4 := (HB.out.cell (World.block_lt_of_cell? w _ hx_4)).trans hx_4; replace hx_5 := (HB.out.cell (World.block_lt_of_cell? w _ hx_5)).trans hx_5; replace hx_6 := (HB.out.cell (World.block_lt_of_cell? w _ hx_6)).trans hx_6; replace hx_4 := (cf_ (p := ⟨gb_2, 0, none⟩) hn_1 (.string ((rd_T71 l0_0 x_2).f0))).trans hx_4; replace hx_5 := (cf_ (p := ⟨gb_2, 0, none⟩) hn_1 (.string ((rd_T71 l0_0 x_2).f0))).trans hx_5; replace hx_6 := (cf_ (p := ⟨gb_2, 0, none⟩) hn_1 (.string ((rd_T71 l0_0 x_2).f0))).trans hx_6; replace hx_4 := (cf_ (p := ⟨gb_2, 1, none⟩) hn_2 (.string ((rd_T71 l0_0 x_2).f1))).trans hx_4; replace hx_5 := (cf_ (p := ⟨gb_2, 1, none⟩) hn_2 (.string ((rd_T71 l0_0 x_2).f1))).trans hx_5; replace hx_6 := (cf_ (p := ⟨gb_2, 1, none⟩) hn_2 (.string ((rd_T71 l0_0 x_2).f1))).trans hx_6; replace hx_4 := (cf_ (p := ⟨gb_2, 2, none⟩) hn_3 (.int .i64 ((rd_T71 l0_0 x_2).f2))).trans hx_4; replace hx_5 := (cf_ (p := ⟨gb_2, 2, none⟩) hn_3 (.int .i64 ((rd_T71 l0_0 x_2).f2))).trans hx_5; replace hx_6 := (cf_ (p := ⟨gb_2, 2, none⟩) hn_3 (.int .i64 ((rd_T71 l0_0 x_2).f2))).trans hx_6; (try have hy_1 := fun (n_ : Nat) => (show (((((w_6.drewN n_).setCell ⟨gb_2, 0, none⟩ (.string ((rd_T71 l0_0 x_2).f0))).setCell ⟨gb_2, 1, none⟩ (.string ((rd_T71 l0_0 x_2).f1))).setCell ⟨gb_2, 2, none⟩ (.int .i64 ((rd_T71 l0_0 x_2).f2)))).cell? _ = some _ from hx_4)); (try have hy_2 := fun (n_ : Nat) => (show (((((w_6.drewN n_).setCell ⟨gb_2, 0, none⟩ (.string ((rd_T71 l0_0 x_2).f0))).setCell ⟨gb_2, 1, none⟩ (.string ((rd_T71 l0_0 x_2).f1))).setCell ⟨gb_2, 2, none⟩ (.int .i64 ((rd_T71 l0_0 x_2).f2)))).cell? _ = some _ from hx_5)); (try have hy_3 := fun (n_ : Nat) => (show (((((w_6.drewN n_).setCell ⟨gb_2, 0, none⟩ (.string ((rd_T71 l0_0 x_2).f0))).setCell ⟨gb_2, 1, none⟩ (.string ((rd_T71 l0_0 x_2).f1))).setCell ⟨gb_2, 2, none⟩ (.int .i64 ((rd_T71 l0_0 x_2).f2)))).cell? _ = some _ from hx_6)); clear hn_1; clear hn_2; clear hn_3; replace p_2 := eq_true p_2; replace q_2 := eq_true q_2) | go_quiet (first | ((with_reducible refine gd_ 5 ?_); (try (refine gate_guard (by rfl) ?_; dsimp only)); refine bz_ 5 #[.string (⟨#[]⟩ : ByteArray), .string (⟨#[]⟩ : ByteArray), .int .i64 0] 71 ?_; intro gb_2 hg w_6 BK_2 hb; have GW_1 := a_ (bs_1 hg HB GE_1); have GE_2 := a_ (bs_1 hg HB GE_1); replace HB := hB_ (bl_1 HB GE_1) hb; have NB_1 := nB_ hg BK_1; have NB_2 := nC_ hg BK_1; replace BK_1 := bB_ BK_1 hb; clear hb hg; have := NB_2.out; have := NB_1.out; obtain ⟨_, _, _, _, _, _⟩ := c3_ BK_2; obtain ⟨_, _, _, _, _, _⟩ := c3_ BK_1; have p_2 : 0 ≤ ((ji_1) : Int) := od_; have q_2 : (ji_1) < (l0_0.length : Int) := od_; obtain ⟨ad_2, e_2, hx_4, hx_5, hx_6⟩ := at_T71 HR_1.out (ji_1) p_2 q_2; obtain rfl : ad_1 = ad_2 := (by injection e_2); have hn_1 : ad_1.block ≠ gb_2 := Nat.ne_of_lt (Nat.lt_of_lt_of_le (by have := World.block_lt_of_cell? _ _ hx_4; first | rwa [add_block] at this | exact this) GW_1.out); have hn_2 : ad_1.block ≠ gb_2 := Nat.ne_of_lt (Nat.lt_of_lt_of_le (by have := World.block_lt_of_cell? _ _ hx_4; first | rwa [add_block] at this | exact this) GW_1.out); have hn_3 : ad_1.block ≠ gb_2 := Nat.ne_of_lt (Nat.lt_of_lt_of_le (by have := World.block_lt_of_cell? _ _ hx_4; first | rwa [add_block] at this | exact this) GW_1.out); replace hx_4 := (HB.out.cell (World.block_lt_of_cell? w _ hx_4)).trans hx_4; replace hx_5 := (HB.out.cell (World.block_lt_of_cell? w _ hx_5)).trans hx_5; replace hx_6 := (HB.out.cell (World.block_lt_of_cell? w _ hx_6)).trans hx_6; replace hx_4 := (cf_ (p := ⟨gb_2, 0, none⟩) hn_1 (.string ((rd_T71 l0_0 x_2).f0))).trans hx_4; replace hx_5 := (cf_ (p := ⟨gb_2, 0, none⟩) hn_1 (.string ((rd_T71 l0_0 x_2).f0))).trans hx_5; replace hx_6 := (cf_ (p := ⟨gb_2, 0, none⟩) hn_1 (.string ((rd_T71 l0_0 x_2).f0))).trans hx_6; replace hx_4 := (cf_ (p := ⟨gb_2, 1, none⟩) hn_2 (.string ((rd_T71 l0_0 x_2).f1))).trans hx_4; replace hx_5 := (cf_ (p := ⟨gb_2, 1, none⟩) hn_2 (.string ((rd_T71 l0_0 x_2).f1))).trans hx_5; replace hx_6 := (cf_ (p := ⟨gb_2, 1, none⟩) hn_2 (.string ((rd_T71 l0_0 x_2).f1))).trans hx_6; replace hx_4 := (cf_ (p := ⟨gb_2, 2, none⟩) hn_3 (.int .i64 ((rd_T71 l0_0 x_2).f2))).trans hx_4; replace hx_5 := (cf_ (p := ⟨gb_2, 2, none⟩) hn_3 (.int .i64 ((rd_T71 l0_0 x_2).f2))).trans hx_5; replace hx_6 := (cf_ (p := ⟨gb_2, 2, none⟩) hn_3 (.int .i64 ((rd_T71 l0_0 x_2).f2))).trans hx_6; (try have hy_1 := fun (n_ : Nat) => (show (((((w_6.drewN n_).setCell ⟨gb_2, 0, none⟩ (.string ((rd_T71 l0_0 x_2).f0))).setCell ⟨gb_2, 1, none⟩ (.string ((rd_T71 l0_0 x_2).f1))).setCell ⟨gb_2, 2, none⟩ (.int .i64 ((rd_T71 l0_0 x_2).f2)))).cell? _ = some _ from hx_4)); (try have hy_2 := fun (n_ : Nat) => (show (((((w_6.drewN n_).setCell ⟨gb_2, 0, none⟩ (.string ((rd_T71 l0_0 x_2).f0))).setCell ⟨gb_2, 1, none⟩ (.string ((rd_T71 l0_0 x_2).f1))).setCell ⟨gb_2, 2, none⟩ (.int .i64 ((rd_T71 l0_0 x_2).f2)))).cell? _ = some _ from hx_5)); (try have hy_3 := fun (n_ : Nat) => (show (((((w_6.drewN n_).setCell ⟨gb_2, 0, none⟩ (.string ((rd_T71 l0_0 x_2).f0))).setCell ⟨gb_2, 1, none⟩ (.string ((rd_T71 l0_0 x_2).f1))).setCell ⟨gb_2, 2, none⟩ (.int .i64 ((rd_T71 l0_0 x_2).f2)))).cell? _ = some _ from hx_6)); clear hn_1; clear hn_2; clear hn_3; replace p_2 := eq_true p_2; replace q_2 := eq_true q_2)))
    go_roundg k1
    case measure => have := HK_1.out; omega
    case rel => exact ⟨(false), (wrap64 (x_2 + 1)), fz_, fz_, H', ⟨by have := HK_1.out; omega⟩, ⟨by refine bq_ ?_; refine blk_far ?_ NB_1.out _; refine bq_ ?_; refine blk_far ?_ NB_1.out _; refine bq_ ?_; refine blk_far ?_ NB_1.out _; refine bq_ ?_; exact BK_1.out⟩, ⟨bl_2 HB GE_1 GE_2⟩⟩
   rw [if_pos c_23] at H
   have c_24 : decide (0 ≤ ((rd_T71 l0_0 x_2).f2)) = true := decide_eq_true c_23
   clear c_23
   have H' := a_ H
   clear H
   have p_1 : 0 ≤ (x_2 : Int) := od_
   have q_1 : x_2 < (l0_0.length : Int) := od_
   obtain ⟨ad_1, e_1, hx_1, hx_2, hx_3⟩ := at_T71 HR_1.out x_2 p_1 q_1
   cases e_1
   replace hx_1 := hc_ HB hx_1
   replace hx_2 := hc_ HB hx_2
   replace hx_3 := hc_ HB hx_3
   replace p_1 := eq_true p_1
   replace q_1 := eq_true q_1
   go_wp2_with (first | ((with_reducible refine gd_ 5 ?_); (try (refine gate_guard (by rfl) ?_; dsimp only)); refine bz_ 5 #[.string (⟨#[]⟩ : ByteArray), .string (⟨#[]⟩ : ByteArray), .int .i64 0] 71 ?_; intro gb_2 hg w_7 BK_2 hb; have GW_1 := a_ (bs_1 hg HB GE_1); have GE_2 := a_ (bs_1 hg HB GE_1); replace HB := hB_ (bl_1 HB GE_1) hb; have NB_1 := nB_ hg BK_1; have NB_2 := nC_ hg BK_1; replace BK_1 := bB_ BK_1 hb; clear hb hg; have := NB_2.out; have := NB_1.out; obtain ⟨_, _, _, _, _, _⟩ := c3_ BK_2; obtain ⟨_, _, _, _, _, _⟩ := c3_ BK_1; have p_2 : 0 ≤ ((ji_1) : Int) := od_; have q_2 : (ji_1) < (l0_0.length : Int) := od_; obtain ⟨ad_2, e_2, hx_4, hx_5, hx_6⟩ := at_T71 HR_1.out (ji_1) p_2 q_2; obtain rfl : ad_1 = ad_2 := (by injection e_2); have hn_1 : ad_1.block ≠ gb_2 := Nat.ne_of_lt (Nat.lt_of_lt_of_le (by have := World.block_lt_of_cell? _ _ hx_4; first | rwa [add_block] at this | exact this) GW_1.out); have hn_2 : ad_1.block ≠ gb_2 := Nat.ne_of_lt (Nat.lt_of_lt_of_le (by have := World.block_lt_of_cell? _ _ hx_4; first | rwa [add_block] at this | exact this) GW_1.out); have hn_3 : ad_1.block ≠ gb_2 := Nat.ne_of_lt (Nat.lt_of_lt_of_le (by have := World.block_lt_of_cell? _ _ hx_4; first | rwa [add_block] at this | exact this) GW_1.out); replace hx_4 := (HB.out.cell (World.block_lt_of_cell? w _ hx_4)).trans hx_4; replace hx_5 := (HB.out.cell (World.block_lt_of_cell? w _ hx_5)).trans hx_5; replace hx_6 := (HB.out.cell (World.block_lt_of_cell? w _ hx_6)).trans hx_6; replace hx_4 := (cf_ (p := ⟨gb_2, 0, none⟩) hn_1 (.string ((rd_T71 l0_0 x_2).f0))).trans hx_4; replace hx_5 := (cf_ (p := ⟨gb_2, 0, none⟩) hn_1 (.string ((rd_T71 l0_0 x_2).f0))).trans hx_5; replace hx_6 := (cf_ (p := ⟨gb_2, 0, none⟩) hn_1 (.string ((rd_T71 l0_0 x_2).f0))).trans hx_6; replace hx_4 := (cf_ (p := ⟨gb_2, 1, none⟩) hn_2 (.string ((rd_T71 l0_0 x_2).f1))).trans hx_4; replace hx_5 := (cf_ (p := ⟨gb_2, 1, none⟩) hn_2 (.string ((rd_T71 l0_0 x_2).f1))).trans hx_5; replace hx_6 := (cf_ (p := ⟨gb_2, 1, none⟩) hn_2 (.string ((rd_T71 l0_0 x_2).f1))).trans hx_6; replace hx_4 := (cf_ (p := ⟨gb_2, 2, none⟩) hn_3 (.int .i64 ((rd_T71 l0_0 x_2).f2))).trans hx_4; replace hx_5 := (cf_ (p := ⟨gb_2, 2, none⟩) hn_3 (.int .i64 ((rd_T71 l0_0 x_2).f2))).trans hx_5; replace hx_6 := (cf_ (p := ⟨gb_2, 2, none⟩) hn_3 (.int .i64 ((rd_T71 l0_0 x_2).f2))).trans hx_6; (try have hy_1 := fun (n_ : Nat) => (show (((((w_7.drewN n_).setCell ⟨gb_2, 0, none⟩ (.string ((rd_T71 l0_0 x_2).f0))).setCell ⟨gb_2, 1, none⟩ (.string ((rd_T71 l0_0 x_2).f1))).setCell ⟨gb_2, 2, none⟩ (.int .i64 ((rd_T71 l0_0 x_2).f2)))).cell? _ = some _ from hx_4)); (try have hy_2 := fun (n_ : Nat) => (show (((((w_7.drewN n_).setCell ⟨gb_2, 0, none⟩ (.string ((rd_T71 l0_0 x_2).f0))).setCell ⟨gb_2, 1, none⟩ (.string ((rd_T71 l0_0 x_2).f1))).setCell ⟨gb_2, 2, none⟩ (.int .i64 ((rd_T71 l0_0 x_2).f2)))).cell? _ = some _ from hx_5)); (try have hy_3 := fun (n_ : Nat) => (show (((((w_7.drewN n_).setCell ⟨gb_2, 0, none⟩ (.string ((rd_T71 l0_0 x_2).f0))).setCell ⟨gb_2, 1, none⟩ (.string ((rd_T71 l0_0 x_2).f1))).setCell ⟨gb_2, 2, none⟩ (.int .i64 ((rd_T71 l0_0 x_2).f2)))).cell? _ = some _ from hx_6)); clear hn_1; clear hn_2; clear hn_3; replace p_2 := eq_true p_2; replace q_2 := eq_true q_2) | go_quiet (first | ((with_reducible refine gd_ 5 ?_); (try (refine gate_guard (by rfl) ?_; dsimp only)); refine bz_ 5 #[.string (⟨#[]⟩ : ByteArray), .string (⟨#[]⟩ : ByteArray), .int .i64 0] 71 ?_; intro gb_2 hg w_7 BK_2 hb; have GW_1 := a_ (bs_1 hg HB GE_1); have GE_2 := a_ (bs_1 hg HB GE_1); replace HB := hB_ (bl_1 HB GE_1) hb; have NB_1 := nB_ hg BK_1; have NB_2 := nC_ hg BK_1; replace BK_1 := bB_ BK_1 hb; clear hb hg; have := NB_2.out; have := NB_1.out; obtain ⟨_, _, _, _, _, _⟩ := c3_ BK_2; obtain ⟨_, _, _, _, _, _⟩ := c3_ BK_1; have p_2 : 0 ≤ ((ji_1) : Int) := od_; have q_2 : (ji_1) < (l0_0.length : Int) := od_; obtain ⟨ad_2, e_2, hx_4, hx_5, hx_6⟩ := at_T71 HR_1.out (ji_1) p_2 q_2; obtain rfl : ad_1 = ad_2 := (by injection e_2); have hn_1 : ad_1.block ≠ gb_2 := Nat.ne_of_lt (Nat.lt_of_lt_of_le (by have := World.block_lt_of_cell? _ _ hx_4; first | rwa [add_block] at this | exact this) GW_1.out); have hn_2 : ad_1.block ≠ gb_2 := Nat.ne_of_lt (Nat.lt_of_lt_of_le (by have := World.block_lt_of_cell? _ _ hx_4; first | rwa [add_block] at this | exact this) GW_1.out); have hn_3 : ad_1.block ≠ gb_2 := Nat.ne_of_lt (Nat.lt_of_lt_of_le (by have := World.block_lt_of_cell? _ _ hx_4; first | rwa [add_block] at this | exact this) GW_1.out); replace hx_4 := (HB.out.cell (World.block_lt_of_cell? w _ hx_4)).trans hx_4; replace hx_5 := (HB.out.cell (World.block_lt_of_cell? w _ hx_5)).trans hx_5; replace hx_6 := (HB.out.cell (World.block_lt_of_cell? w _ hx_6)).trans hx_6; replace hx_4 := (cf_ (p := ⟨gb_2, 0, none⟩) hn_1 (.string ((rd_T71 l0_0 x_2).f0))).trans hx_4; replace hx_5 := (cf_ (p := ⟨gb_2, 0, none⟩) hn_1 (.string ((rd_T71 l0_0 x_2).f0))).trans hx_5; replace hx_6 := (cf_ (p := ⟨gb_2, 0, none⟩) hn_1 (.string ((rd_T71 l0_0 x_2).f0))).trans hx_6; replace hx_4 := (cf_ (p := ⟨gb_2, 1, none⟩) hn_2 (.string ((rd_T71 l0_0 x_2).f1))).trans hx_4; replace hx_5 := (cf_ (p := ⟨gb_2, 1, none⟩) hn_2 (.string ((rd_T71 l0_0 x_2).f1))).trans hx_5; replace hx_6 := (cf_ (p := ⟨gb_2, 1, none⟩) hn_2 (.string ((rd_T71 l0_0 x_2).f1))).trans hx_6; replace hx_4 := (cf_ (p := ⟨gb_2, 2, none⟩) hn_3 (.int .i64 ((rd_T71 l0_0 x_2).f2))).trans hx_4; replace hx_5 := (cf_ (p := ⟨gb_2, 2, none⟩) hn_3 (.int .i64 ((rd_T71 l0_0 x_2).f2))).trans hx_5; replace hx_6 := (cf_ (p := ⟨gb_2, 2, none⟩) hn_3 (.int .i64 ((rd_T71 l0_0 x_2).f2))).trans hx_6; (try have hy_1 := fun (n_ : Nat) => (show (((((w_7.drewN n_).setCell ⟨gb_2, 0, none⟩ (.string ((rd_T71 l0_0 x_2).f0))).setCell ⟨gb_2, 1, none⟩ (.string ((rd_T71 l0_0 x_2).f1))).setCell ⟨gb_2, 2, none⟩ (.int .i64 ((rd_T71 l0_0 x_2).f2)))).cell? _ = some _ from hx_4)); (try have hy_2 := fun (n_ : Nat) => (show (((((w_7.drewN n_).setCell ⟨gb_2, 0, none⟩ (.string ((rd_T71 l0_0 x_2).f0))).setCell ⟨gb_2, 1, none⟩ (.string ((rd_T71 l0_0 x_2).f1))).setCell ⟨gb_2, 2, none⟩ (.int .i64 ((rd_T71 l0_0 x_2).f2)))).cell? _ = some _ from hx_5)); (try have hy_3 := fun (n_ : Nat) => (show (((((w_7.drewN n_).setCell ⟨gb_2, 0, none⟩ (.string ((rd_T71 l0_0 x_2).f0))).setCell ⟨gb_2, 1, none⟩ (.string ((rd_T71 l0_0 x_2).f1))).setCell ⟨gb_2, 2, none⟩ (.int .i64 ((rd_T71 l0_0 x_2).f2)))).cell? _ = some _ from hx_6)); clear hn_1; clear hn_2; clear hn_3; replace p_2 := eq_true p_2; replace q_2 := eq_true q_2)))
   go_roundg k1
   case measure => have := HK_1.out; omega
   case rel => exact ⟨(decide (((rd_T71 l0_0 x_2).f2) ≤ (((rd_T71 l0_0 x_2).f1).size : Int))), (wrap64 (x_2 + 1)), fz_, fz_, H', ⟨by have := HK_1.out; omega⟩, ⟨by refine bq_ ?_; refine blk_far ?_ NB_1.out _; refine bq_ ?_; refine blk_far ?_ NB_1.out _; refine bq_ ?_; refine blk_far ?_ NB_1.out _; refine bq_ ?_; exact BK_1.out⟩, ⟨bl_2 HB GE_1 GE_2⟩⟩

def disk_asked.f (k : Nat) (l0_0 : List (S71)) (a0_1 : Bool) (a0_2 : Int) : Option (Int) := (disk_Check.f k l0_0 a0_1 a0_2).bind fun t144 => (if t144 = 0 then (if a0_1 = true then (some 8) else (some 0)) else (some t144))
theorem disk_asked.mono : ∀ a0 a1 a2 k, LeO (disk_asked.f k a0 a1 a2) (disk_asked.f (k + 1) a0 a1 a2) := by
 intro a0 a1 a2 k
 unfold disk_asked.f
 repeat' with_reducible first | apply disk_Check.mono | apply LeO.refl | apply LeO.none | apply LeO.ite | refine LeO.bind ?_ (fun _ => ?_)
theorem disk_asked.calls (k : Nat) (A0_0 : Option Addr) (c0_0 : Nat) (l0_0 : List (S71)) (a0_1 : Bool) (a0_2 : Int) (r : Int) (w : World) (hr0_0 : Kd.C k71 w A0_0 l0_0.length l0_0) (hc0_0 : l0_0.length ≤ c0_0) (h : disk_asked.f k l0_0 a0_1 a0_2 = some r) :
  Calls Try.prog 49 #[.agg #[.slice A0_0 l0_0.length c0_0, .bool a0_1, .int .i64 a0_2]] w fun e w' => e = .returned (.int .i64 r) ∧ Below w.heap.size w w' := by
 have hu24 := Try.underlying24
 have HR0_0 := a_ hr0_0
 have HC0_0 := a_ hc0_0
 clear hr0_0 hc0_0
 have HB := a_ (Below.refl w.heap.size w)
 have H := h
 unfold disk_asked.f at H
 clear h
 obtain ⟨t144, A2, H⟩ := ob_ H
 try dsimp only at H
 by_cases c3 : t144 = 0
 rotate_left
 ·rw [if_neg c3] at H
  obtain ⟨c3b0, c3b1⟩ := bn_ c3
  obtain rfl := Option.some.inj H
  go_enter Try.func49, Try.ntmps49
  go_wp2_with (first | ((with_reducible refine gd_ 1 ?_); refine bz_ 1 #[.slice A0_0 l0_0.length c0_0, .bool a0_1, .int .i64 a0_2] 24 ?_; intro gb143 hg w13 BK143 hb; have GE143 := a_ (bs_0 hg HB); replace HB := hB_ (bl_ HB) hb; clear hb hg; obtain ⟨hcz14_0, hcz14_1, hcz14_2, hfz14_0, hfz14_1, hfz14_2⟩ := c3_ BK143) | ((with_reducible refine gk_ 37 ?_); refine gl_ (some 5) Try.func37 #[.agg #[.slice A0_0 l0_0.length c0_0, .bool a0_1, .int .i64 a0_2]] ?_; (with_reducible refine (disk_Check.calls _ _ _ _ _ _ _ _ ?side1 ?side2 A2.out).mono ?_); (case side1 => exact cl_ (Kd.C_below HR0_0.out HB.out)); (case side2 => exact HC0_0.out); rintro e w15 ⟨rfl, hb⟩; refine ⟨_, rfl, ?_⟩; replace BK143 := bB_ BK143 hb; replace HB := hB_ (bl_1 HB GE143) hb; (try clear hb)))
  go_ret
  exact ⟨fz_, bl_1 HB GE143⟩


 rw [if_pos c3] at H
 obtain ⟨c3b0, c3b1⟩ := be_ c3
 clear c3
 by_cases c4 : a0_1 = true
 ·subst c4
  have H1 : (some 8) = some r := by rw [if_pos rfl] at H; exact H
  clear H
  have H := H1
  clear H1
  obtain rfl := Option.some.inj H
  go_enter Try.func49, Try.ntmps49
  go_wp2_with (first | ((with_reducible refine gd_ 1 ?_); refine bz_ 1 #[.slice A0_0 l0_0.length c0_0, .bool true, .int .i64 a0_2] 24 ?_; intro gb143 hg w5 BK143 hb; have GE143 := a_ (bs_0 hg HB); replace HB := hB_ (bl_ HB) hb; clear hb hg; obtain ⟨hcz6_0, hcz6_1, hcz6_2, hfz6_0, hfz6_1, hfz6_2⟩ := c3_ BK143) | ((with_reducible refine gk_ 37 ?_); refine gl_ (some 5) Try.func37 #[.agg #[.slice A0_0 l0_0.length c0_0, .bool true, .int .i64 a0_2]] ?_; (with_reducible refine (disk_Check.calls _ _ _ _ _ _ _ _ ?side1 ?side2 A2.out).mono ?_); (case side1 => exact cl_ (Kd.C_below HR0_0.out HB.out)); (case side2 => exact HC0_0.out); rintro e w7 ⟨rfl, hb⟩; refine ⟨_, rfl, ?_⟩; replace BK143 := bB_ BK143 hb; replace HB := hB_ (bl_1 HB GE143) hb; (try clear hb); obtain ⟨hcz8_0, hcz8_1, hcz8_2, hfz8_0, hfz8_1, hfz8_2⟩ := c3_ BK143))
  go_ret
  exact ⟨fz_, bl_1 HB GE143⟩
 replace c4 := Bool.eq_false_iff.mpr c4
 subst c4
 have H1 : (some 0) = some r := by rw [if_neg (show ¬ (false = true) by decide)] at H; exact H
 clear H
 have H := H1
 clear H1
 obtain rfl := Option.some.inj H
 go_enter Try.func49, Try.ntmps49
 go_wp2_with (first | ((with_reducible refine gd_ 1 ?_); refine bz_ 1 #[.slice A0_0 l0_0.length c0_0, .bool false, .int .i64 a0_2] 24 ?_; intro gb143 hg w9 BK143 hb; have GE143 := a_ (bs_0 hg HB); replace HB := hB_ (bl_ HB) hb; clear hb hg; obtain ⟨hcz10_0, hcz10_1, hcz10_2, hfz10_0, hfz10_1, hfz10_2⟩ := c3_ BK143) | ((with_reducible refine gk_ 37 ?_); refine gl_ (some 5) Try.func37 #[.agg #[.slice A0_0 l0_0.length c0_0, .bool false, .int .i64 a0_2]] ?_; (with_reducible refine (disk_Check.calls _ _ _ _ _ _ _ _ ?side1 ?side2 A2.out).mono ?_); (case side1 => exact cl_ (Kd.C_below HR0_0.out HB.out)); (case side2 => exact HC0_0.out); rintro e w11 ⟨rfl, hb⟩; refine ⟨_, rfl, ?_⟩; replace BK143 := bB_ BK143 hb; replace HB := hB_ (bl_1 HB GE143) hb; (try clear hb); obtain ⟨hcz12_0, hcz12_1, hcz12_2, hfz12_0, hfz12_1, hfz12_2⟩ := c3_ BK143))
 go_ret
 exact ⟨fz_, bl_1 HB GE143⟩
def cmp_isNaN_string.f (a0 : ByteArray) : Option (Bool) := some (a0.toList != a0.toList)
theorem cmp_isNaN_string.calls (a0 : ByteArray) (r : Bool) (w : World) (h : cmp_isNaN_string.f a0 = some r) :
  Calls Try.prog 103 #[.string a0] w fun e w' => e = .returned (.bool r) ∧ Drawn0 w w' := by
 have H := h
 unfold cmp_isNaN_string.f at H
 clear h
 obtain rfl := Option.some.inj H
 go_enter Try.func103, Try.ntmps103
 go_wp2
 go_ret
 exact ⟨fz_, dr_⟩

def cmp_Compare_string.f (a0 : ByteArray) (a1 : ByteArray) : Option (Int) := (cmp_isNaN_string.f a0).bind fun t145 => ((cmp_isNaN_string.f a1).bind fun t146 => (if t145 = true then (if t146 = true then (some 0) else (some (-1))) else (if t146 = true then (some 1) else (if (Op.bytesLess a0.toList a1.toList) = true then (some (-1)) else (if (Op.bytesLess a1.toList a0.toList) = true then (some 1) else (some 0))))))
theorem cmp_Compare_string.calls (a0 : ByteArray) (a1 : ByteArray) (r : Int) (w : World) (h : cmp_Compare_string.f a0 a1 = some r) :
  Calls Try.prog 81 #[.string a0, .string a1] w fun e w' => e = .returned (.int .i64 r) ∧ Drawn0 w w' := by
 have H := h
 unfold cmp_Compare_string.f at H
 clear h
 obtain ⟨t_1, A_2, H⟩ := ob_ H
 try dsimp only at H
 obtain ⟨t_2, A_4, H⟩ := ob_ H
 try dsimp only at H
 by_cases c_1 : t_1 = true
 focus
  subst c_1
  rw [if_pos rfl] at H
  by_cases c_2 : t_2 = true
  focus
   subst c_2
   rw [if_pos rfl] at H
   obtain rfl := Option.some.inj H
  rotate_left
  replace c_2 := Bool.eq_false_iff.mpr c_2
  subst c_2
  rw [if_neg (show ¬ (false = true) by decide)] at H
  obtain rfl := Option.some.inj H
 rotate_left 2
 focus
  replace c_1 := Bool.eq_false_iff.mpr c_1
  subst c_1
  rw [if_neg (show ¬ (false = true) by decide)] at H
  by_cases c_2 : t_2 = true
  focus
   subst c_2
   rw [if_pos rfl] at H
   obtain rfl := Option.some.inj H
  rotate_left
  focus
   replace c_2 := Bool.eq_false_iff.mpr c_2
   subst c_2
   rw [if_neg (show ¬ (false = true) by decide)] at H
   by_cases c_3 : (Op.bytesLess a0.toList a1.toList) = true
   focus
    rw [if_pos c_3] at H
    have c_4 : (Op.bytesLess a0.toList a1.toList) = true := c_3
    clear c_3
    obtain rfl := Option.some.inj H
   rotate_left
   focus
    rw [if_neg c_3] at H
    have c_4 : (Op.bytesLess a0.toList a1.toList) = false := by simpa using c_3
    clear c_3
    by_cases c_5 : (Op.bytesLess a1.toList a0.toList) = true
    focus
     rw [if_pos c_5] at H
     have c_6 : (Op.bytesLess a1.toList a0.toList) = true := c_5
     clear c_5
     obtain rfl := Option.some.inj H
    rotate_left
    rw [if_neg c_5] at H
    have c_6 : (Op.bytesLess a1.toList a0.toList) = false := by simpa using c_5
    clear c_5
    obtain rfl := Option.some.inj H
 all_goals
  go_enter Try.func81, Try.ntmps81
  go_wp2_with (first | ((with_reducible refine gk_ 103 ?_); refine gl_ (some 8) Try.func103 #[.string a0] ?_; (with_reducible refine (cmp_isNaN_string.calls _ _ _ A_2.out).mono ?_); rintro e w' ⟨rfl, ⟨nd, rfl⟩⟩; refine ⟨_, rfl, ?_⟩) | ((with_reducible refine gk_ 103 ?_); refine gl_ (some 10) Try.func103 #[.string a1] ?_; (with_reducible refine (cmp_isNaN_string.calls _ _ _ A_4.out).mono ?_); rintro e w' ⟨rfl, ⟨nd, rfl⟩⟩; refine ⟨_, rfl, ?_⟩))
  go_ret
  exact ⟨fz_, dr_⟩

def disk_place_1.f (a0_0 : ByteArray) (a0_1 : ByteArray) (a0_2 : Int) (a1 : ByteArray) : Option (Int) := (cmp_Compare_string.f a0_0 a1).bind fun t148 => (some t148)
theorem disk_place_1.calls (a0_0 : ByteArray) (a0_1 : ByteArray) (a0_2 : Int) (a1 : ByteArray) (r : Int) (w : World) (h : disk_place_1.f a0_0 a0_1 a0_2 a1 = some r) :
  Calls Try.prog 80 #[.agg #[.string a0_0, .string a0_1, .int .i64 a0_2], .string a1] w fun e w' => e = .returned (.int .i64 r) ∧ Below w.heap.size w w' := by
 have hu71 := Try.underlying71
 have HB := a_ (Below.refl w.heap.size w)
 have H := h
 unfold disk_place_1.f at H
 clear h
 obtain ⟨t148, A3, H⟩ := ob_ H
 try dsimp only at H
 obtain rfl := Option.some.inj H
 go_enter Try.func80, Try.ntmps80
 go_wp2_with (first | ((with_reducible refine gd_ 2 ?_); refine bz_ 2 #[.string a0_0, .string a0_1, .int .i64 a0_2] 71 ?_; intro gb147 hg w4 BK147 hb; have GE147 := a_ (bs_0 hg HB); replace HB := hB_ (bl_ HB) hb; clear hb hg; obtain ⟨hcz5_0, hcz5_1, hcz5_2, hfz5_0, hfz5_1, hfz5_2⟩ := c3_ BK147) | ((with_reducible refine gk_ 81 ?_); refine gl_ (some 8) Try.func81 #[.string a0_0, .string a1] ?_; (with_reducible refine (cmp_Compare_string.calls _ _ _ _ A3.out).mono ?_); rintro e w' ⟨rfl, ⟨nd, rfl⟩⟩; refine ⟨_, rfl, ?_⟩))
 go_ret
 exact ⟨fz_, bl_1 HB GE147⟩

def api_File_string.l0 : Nat → List (S71) → ByteArray → Int → Int → Int → Option (Int × Bool)
 | 0, _, _, _, _, _ => none
 | k + 1, x0, x1, x8, x9, x10 => if x9 < x10 then (if 0 ≤ (wrap64 ((IntKind.u64.wrap (wrap64 (x9 + x10))) / 2)) then (if (wrap64 ((IntKind.u64.wrap (wrap64 (x9 + x10))) / 2)) < (x0.length : Int) then ((disk_place_1.f ((rd_T71 x0 (wrap64 ((IntKind.u64.wrap (wrap64 (x9 + x10))) / 2))).f0) ((rd_T71 x0 (wrap64 ((IntKind.u64.wrap (wrap64 (x9 + x10))) / 2))).f1) ((rd_T71 x0 (wrap64 ((IntKind.u64.wrap (wrap64 (x9 + x10))) / 2))).f2) x1).bind fun t150 => (if t150 < 0 then (api_File_string.l0 k x0 x1 x8 (wrap64 ((wrap64 ((IntKind.u64.wrap (wrap64 (x9 + x10))) / 2)) + 1)) x10) else (api_File_string.l0 k x0 x1 x8 x9 (wrap64 ((IntKind.u64.wrap (wrap64 (x9 + x10))) / 2))))) else (none)) else (none)) else (if x9 < x8 then (if 0 ≤ x9 then (if x9 < (x0.length : Int) then ((disk_place_1.f ((rd_T71 x0 x9).f0) ((rd_T71 x0 x9).f1) ((rd_T71 x0 x9).f2) x1).bind fun t152 => (some (x9, (t152 == 0)))) else (none)) else (none)) else (some (x9, false)))
def api_File_string.f (k : Nat) (l0 : List (S71)) (a1 : ByteArray)  : Option (Int × Bool) := api_File_string.l0 k l0 a1 (l0.length : Int) 0 (l0.length : Int)
theorem api_File_string.mono_l : ∀ k, (∀ y0 y1 y2 y3 y4, LeO (api_File_string.l0 k y0 y1 y2 y3 y4) (api_File_string.l0 (k + 1) y0 y1 y2 y3 y4))
 | 0 => fun _ _ _ _ _ r h => by simp [api_File_string.l0] at h
 | k + 1 => by
  have ih0 := api_File_string.mono_l k
  ·intro y0 y1 y2 y3 y4
   unfold api_File_string.l0
   repeat' with_reducible first | apply ih0 | apply LeO.refl | apply LeO.none | apply LeO.ite | refine LeO.bind ?_ (fun _ => ?_)
theorem api_File_string.mono : ∀ a0 a1 k, LeO (api_File_string.f k a0 a1) (api_File_string.f (k + 1) a0 a1) := by
 intro a0 a1 k
 have ih0 := api_File_string.mono_l k
 unfold api_File_string.f
 repeat' with_reducible first | apply ih0 | apply LeO.refl | apply LeO.none | apply LeO.ite | refine LeO.bind ?_ (fun _ => ?_)
theorem api_File_string.calls (k : Nat) (A0 : Option Addr) (c0 : Nat) (l0 : List (S71)) (a1 : ByteArray)  (r1 : Int) (r2 : Bool) (w : World) (hr0 : Kd.C k71 w A0 l0.length l0) (hc0 : l0.length ≤ c0) (h : api_File_string.f k l0 a1 = some (r1, r2)) :
  Calls Try.prog 79 #[.slice A0 l0.length c0, .string a1, (.func (.func 80) #[] #[])] w fun e w' => e = .returned (.tuple #[.int .i64 r1, .bool r2]) ∧ Below w.heap.size w w' := by
 have hu_1 := Try.underlying71
 have HR_1 := a_ hr0
 have HC_1 := a_ hc0
 clear hr0 hc0
 have HB := a_ (Below.refl w.heap.size w)
 have H := h
 unfold api_File_string.f at H
 clear h
 have H' := a_ H
 clear H
 go_enter Try.func79, Try.ntmps79
 go_wp2
 go_loopg [9, 10] k (fun kq v9 v10 w' => ∃ (x9_1 : Int) (x10_1 : Int), v9 = .int .i64 x9_1 ∧ v10 = .int .i64 x10_1 ∧ Aside0 (api_File_string.l0 kq l0 a1 (l0.length : Int) x9_1 x10_1 = some (r1, r2)) ∧ Aside0 (kq ≤ k) ∧ Aside0 (Below w.heap.size w w'))
 case atStart => exact ⟨(0), ((l0.length : Int)), fz_, fz_, H', ⟨Nat.le_refl _⟩, ⟨bl_ HB⟩⟩
 case round =>
  clear H'
  obtain ⟨x_1, x_2, rfl, rfl, HA, HK_1, HB⟩ := hrel
  cases gk with
  | zero => exact absurd HA.out (by simp [api_File_string.l0])
  | succ k1 =>
   have H := HA.out
   clear HA
   simp only [api_File_string.l0] at H
   by_cases c_1 : x_1 < x_2
   rotate_left
   ·rw [if_neg c_1] at H
    have c_2 : decide (x_1 < x_2) = false := decide_eq_false c_1
    clear c_1
    by_cases c_3 : x_1 < (l0.length : Int)
    rotate_left
    ·rw [if_neg c_3] at H
     have c_4 : decide (x_1 < (l0.length : Int)) = false := decide_eq_false c_3
     clear c_3
     obtain ⟨rfl, rfl⟩ := so2_ H
     go_wp2
     go_ret2
     exact ⟨fz_, bl_ HB⟩
    rw [if_pos c_3] at H
    have c_4 : decide (x_1 < (l0.length : Int)) = true := decide_eq_true c_3
    clear c_3
    replace H := ip_ H
    obtain ⟨-, c_6, H⟩ := H
    replace H := ip_ H
    obtain ⟨-, c_8, H⟩ := H
    obtain ⟨t_1, A_2, H⟩ := ob_ H
    try dsimp only at H
    obtain ⟨rfl, rfl⟩ := so2_ H
    have p_1 : 0 ≤ (x_1 : Int) := od_
    have q_1 : x_1 < (l0.length : Int) := od_
    obtain ⟨ad_1, e_1, hx_1, hx_2, hx_3⟩ := at_T71 HR_1.out x_1 p_1 q_1
    cases e_1
    replace hx_1 := hc_ HB hx_1
    replace hx_2 := hc_ HB hx_2
    replace hx_3 := hc_ HB hx_3
    replace p_1 := eq_true p_1
    replace q_1 := eq_true q_1
    go_wp2_with (first | (go_at_call 80; (with_reducible refine (disk_place_1.calls _ _ _ _ _ _ A_2.out).mono ?_); rintro e w_1 ⟨rfl, hb⟩; replace HB := hB_ (bl_ HB) hb; (try clear hb)))
    go_ret2
    exact ⟨fz_, bl_ HB⟩
   rw [if_pos c_1] at H
   have c_2 : decide (x_1 < x_2) = true := decide_eq_true c_1
   clear c_1
   obtain ⟨ji_1, hji_1⟩ : ∃ j_ : Int, (wrap64 ((IntKind.u64.wrap (wrap64 (x_1 + x_2))) / 2)) = j_ := ⟨_, rfl⟩
   replace H : (if 0 ≤ (ji_1) then (if (ji_1) < (l0.length : Int) then ((disk_place_1.f ((rd_T71 l0 (ji_1)).f0) ((rd_T71 l0 (ji_1)).f1) ((rd_T71 l0 (ji_1)).f2) a1).bind fun t150 => (if t150 < 0 then (api_File_string.l0 k1 l0 a1 (l0.length : Int) (wrap64 ((ji_1) + 1)) x_2) else (api_File_string.l0 k1 l0 a1 (l0.length : Int) x_1 ji_1))) else (none)) else (none)) = some (r1, r2) := by first | (rw [hji_1] at H; exact H) | (simp only [hji_1] at H ⊢; exact H)
   have hji_2 : (IntKind.i64.wrap ((IntKind.u64.wrap (wrap64 (x_1 + x_2))) / 2)) = ji_1 := (i64_w _).trans hji_1
   replace H := ip_ H
   obtain ⟨-, c_10, H⟩ := H
   replace H := ip_ H
   obtain ⟨-, c_12, H⟩ := H
   obtain ⟨t_2, A_4, H⟩ := ob_ H
   try dsimp only at H
   by_cases c_13 : t_2 < 0
   rotate_left
   ·rw [if_neg c_13] at H
    have c_14 : decide (t_2 < 0) = false := decide_eq_false c_13
    clear c_13
    have H' := a_ H
    clear H
    have p_2 : 0 ≤ ((ji_1) : Int) := od_
    have q_2 : (ji_1) < (l0.length : Int) := od_
    obtain ⟨ad_2, e_2, hx_4, hx_5, hx_6⟩ := at_T71 HR_1.out (ji_1) p_2 q_2
    cases e_2
    replace hx_4 := hc_ HB hx_4
    replace hx_5 := hc_ HB hx_5
    replace hx_6 := hc_ HB hx_6
    replace p_2 := eq_true p_2
    replace q_2 := eq_true q_2
    go_wp2_with (first | (go_at_call 80; (with_reducible refine (disk_place_1.calls _ _ _ _ _ _ A_4.out).mono ?_); rintro e w_2 ⟨rfl, hb⟩; replace HB := hB_ (bl_ HB) hb; (try clear hb)))
    go_roundg k1
    case measure => have := HK_1.out; omega
    case rel => exact ⟨(x_1), (ji_1), fz_, (by first | rfl | (simp; done) | (simp only [← hji_1] <;> (first | rfl | simp)) | (simp [*]; done)), H', ⟨by have := HK_1.out; omega⟩, ⟨bl_ HB⟩⟩
   rw [if_pos c_13] at H
   have c_14 : decide (t_2 < 0) = true := decide_eq_true c_13
   clear c_13
   have H' := a_ H
   clear H
   have p_2 : 0 ≤ ((ji_1) : Int) := od_
   have q_2 : (ji_1) < (l0.length : Int) := od_
   obtain ⟨ad_2, e_2, hx_4, hx_5, hx_6⟩ := at_T71 HR_1.out (ji_1) p_2 q_2
   cases e_2
   replace hx_4 := hc_ HB hx_4
   replace hx_5 := hc_ HB hx_5
   replace hx_6 := hc_ HB hx_6
   replace p_2 := eq_true p_2
   replace q_2 := eq_true q_2
   go_wp2_with (first | (go_at_call 80; (with_reducible refine (disk_place_1.calls _ _ _ _ _ _ A_4.out).mono ?_); rintro e w_3 ⟨rfl, hb⟩; replace HB := hB_ (bl_ HB) hb; (try clear hb)))
   go_roundg k1
   case measure => have := HK_1.out; omega
   case rel => exact ⟨(wrap64 ((ji_1) + 1)), (x_2), (by first | rfl | (simp; done) | (simp only [← hji_1] <;> (first | rfl | simp)) | (simp [*]; done)), fz_, H', ⟨by have := HK_1.out; omega⟩, ⟨bl_ HB⟩⟩
end Go.Proofs.Ytpigjmjbfpipnaa.PF
