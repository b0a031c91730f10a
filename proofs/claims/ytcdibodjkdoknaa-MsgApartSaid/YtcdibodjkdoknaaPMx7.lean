-- Written for this claim by a program of this session. Lean checks it.
import Derived.Test.YtcdibodjkdoknaaPMx0
import Derived.Test.YtcdibodjkdoknaaPMx2
import Derived.Test.YtcdibodjkdoknaaPMx4
import Derived.Test.YtcdibodjkdoknaaPMx5
import Derived.Test.YtcdibodjkdoknaaPMx6
namespace Go.Proofs.Ytcdibodjkdoknaa.PM
open Go.RowKit Go.Proofs.YtcdibodjkdoknaaW.PrintWords Go.Proofs.YtcdibodjkdoknaaW.PrintLast Go.Proofs.YtcdibodjkdoknaaW.PrintMore Go.Proofs.Ytcdibodjkdoknaa.Sh Go.Proofs.Ytcdibodjkdoknaa.Op
attribute [local go_sem] max2_int min2_int max_two min_two max_three min_three max_four min_four   -- for this text's walks alone
set_option linter.unusedVariables false
set_option maxHeartbeats 80000000
set_option maxRecDepth 100000
set_option linter.unusedSimpArgs false

/-! ### pack_TakeNumber: function 78 -/
def pack_TakeNumber.j0 : Nat → ByteArray → Int → Bool → Option (Int × ByteArray × Int)
 | 0, _, _, _ => none
 | k + 1, x0, x5, x13 => if x13 = true then (some (0, (⟨#[]⟩ : ByteArray), 4)) else (if x5 > (x0.size : Int) then (some (0, (⟨#[]⟩ : ByteArray), 3)) else (if 0 ≤ x5 then (if x5 ≤ (x0.size : Int) then ((pack_value.f k (x0.extract 0 (x5 : Int).toNat)).bind fun t143 => (some (t143, x0.extract (x5 : Int).toNat x0.size, 0))) else (none)) else (none)))
def pack_TakeNumber.f (k : Nat) (a0 : ByteArray) : Option (Int × ByteArray × Int) := if a0.toList = ([] : List UInt8) then (some (0, (⟨#[]⟩ : ByteArray), 3)) else (if 0 < (a0.size : Int) then (if 1 ≤ (a0.size : Int) then (if (wrap64 (bt a0 0)) > 8 then (pack_TakeNumber.j0 k (a0.extract 1 a0.size) (wrap64 (bt a0 0)) true) else (if (wrap64 (bt a0 0)) > 0 then (if (a0.extract 1 a0.size).toList = ([] : List UInt8) then (pack_TakeNumber.j0 k (a0.extract 1 a0.size) (wrap64 (bt a0 0)) false) else (if 0 < ((a0.extract 1 a0.size).size : Int) then (pack_TakeNumber.j0 k (a0.extract 1 a0.size) (wrap64 (bt a0 0)) ((bt (a0.extract 1 a0.size) 0) == 0)) else (none))) else (pack_TakeNumber.j0 k (a0.extract 1 a0.size) (wrap64 (bt a0 0)) false))) else (none)) else (none))
theorem pack_TakeNumber.mono_l : ∀ k, (∀ y0 y1 y2, LeO (pack_TakeNumber.j0 k y0 y1 y2) (pack_TakeNumber.j0 (k + 1) y0 y1 y2))
 | 0 => fun _ _ _ r h => by simp [pack_TakeNumber.j0] at h
 | k + 1 => by
  have ih0 := pack_TakeNumber.mono_l k
  ·intro y0 y1 y2
   unfold pack_TakeNumber.j0
   repeat' with_reducible first | exact ih0 _ _ _ | exact pack_value.mono _ _ | exact LeO.refl _ | exact LeO.none _ | refine LeO.ite ?_ ?_ | refine LeO.bind ?_ (fun _ => ?_)
theorem pack_TakeNumber.mono : ∀ a0 k, LeO (pack_TakeNumber.f k a0) (pack_TakeNumber.f (k + 1) a0) := by
 intro a0 k
 have ih0 := pack_TakeNumber.mono_l k
 unfold pack_TakeNumber.f
 repeat' with_reducible first | exact ih0 _ _ _ | exact pack_value.mono _ _ | exact LeO.refl _ | exact LeO.none _ | refine LeO.ite ?_ ?_ | refine LeO.bind ?_ (fun _ => ?_)
theorem pack_TakeNumber.calls (k : Nat) (a0 : ByteArray) (r1 : Int) (r2 : ByteArray) (r3 : Int) (w : World) (h : pack_TakeNumber.f k a0 = some (r1, r2, r3)) :
  Calls Try.prog 78 #[.string a0] w fun e w' => e = .returned (.tuple #[.int .u64 r1, .string r2, .int .i64 r3]) ∧ Drawn0 w w' := by
 have H : (if a0.toList = ([] : List UInt8) then (some (0, (⟨#[]⟩ : ByteArray), 3)) else (if 0 < (a0.size : Int) then (if 1 ≤ (a0.size : Int) then (if (wrap64 (bt a0 0)) > 8 then (pack_TakeNumber.j0 k (a0.extract 1 a0.size) (wrap64 (bt a0 0)) true) else (if (wrap64 (bt a0 0)) > 0 then (if (a0.extract 1 a0.size).toList = ([] : List UInt8) then (pack_TakeNumber.j0 k (a0.extract 1 a0.size) (wrap64 (bt a0 0)) false) else (if 0 < ((a0.extract 1 a0.size).size : Int) then (pack_TakeNumber.j0 k (a0.extract 1 a0.size) (wrap64 (bt a0 0)) ((bt (a0.extract 1 a0.size) 0) == 0)) else (none))) else (pack_TakeNumber.j0 k (a0.extract 1 a0.size) (wrap64 (bt a0 0)) false))) else (none)) else (none))) = some (r1, r2, r3) := h
 clear h
 by_cases c2 : a0.toList = ([] : List UInt8)
 ·rw [if_pos c2] at H
  have c2b0 : (a0.toList == ([] : List UInt8)) = true := beq_iff_eq.mpr c2
  have c2b1 : (a0.toList != ([] : List UInt8)) = false := bne_eq_false_iff_eq.mpr c2
  clear c2
  simp only [Option.some.injEq, Prod.mk.injEq] at H
  obtain ⟨rfl, rfl, rfl⟩ := H
  go_enter Try.func78, Try.ntmps78
  go_wp2
  repeat (go_quiet (fail); try go_wp2)
  go_ret3
  exact ⟨fz_, dr_⟩
 rw [if_neg c2] at H
 have c2b0 : (a0.toList == ([] : List UInt8)) = false := beq_eq_false_iff_ne.mpr c2
 have c2b1 : (a0.toList != ([] : List UInt8)) = true := bne_iff_ne.mpr c2
 by_cases c3 : 0 < (a0.size : Int)
 rotate_left
 ·rw [if_neg c3] at H
  exact absurd H (by simp)


 rw [if_pos c3] at H
 have c3b0 : decide (0 < (a0.size : Int)) = true := decide_eq_true c3
 have c3b1 : decide (0 < a0.size) = true := decide_eq_true (by omega)
 clear c3
 by_cases c5 : 1 ≤ (a0.size : Int)
 rotate_left
 ·rw [if_neg c5] at H
  exact absurd H (by simp)
 rw [if_pos c5] at H
 have c5b0 := eq_true c5
 have c5b1 : decide (1 ≤ (a0.size : Int)) = true := decide_eq_true c5
 clear c5
 have HC6 := a_ H
 clear H
 have p4 : 0 ≤ (0 : Int) := (by omega)
 have q4 : 0 < a0.size := (by have : (0 : Int) < (a0.size : Int) := od_; omega)
 have hx4 : ∀ h : 0 < a0.size, ((a0[0]'h).toNat : Int) = bt a0 0 := bt_at a0 0
 clear p4
 have qi4 : (0 < (a0.size : Int)) = True := eq_true od_
 replace q4 := eq_true q4
 go_enter Try.func78, Try.ntmps78
 go_upto_region 5 with (fail)
 repeat (go_quiet (fail); go_upto_region 5 with (fail))
 go_cut [13] (fun v13 wc => ∃ (kq : Nat) (x13_5 : Bool), v13 = .bool x13_5 ∧ Aside0 (pack_TakeNumber.j0 kq (a0.extract 1 a0.size) (wrap64 (bt a0 0)) x13_5 = some (r1, r2, r3)) ∧ Aside0 (kq ≤ k) ∧ Drawn0 w wc)
 case first =>
  have H := HC6.out
  clear HC6
  by_cases c7 : (wrap64 (bt a0 0)) > 8
  ·rw [if_pos c7] at H
   have c7b0 : decide (8 < (wrap64 (bt a0 0))) = true := decide_eq_true c7
   clear c7
   (first | rw [c7b0] | (simp only [i64_w, i32_w]; rw [c7b0]) | skip)
   have H' := a_ H
   clear H
   go_wp2
   repeat (go_quiet (fail); try go_wp2)
   go_meet
   case rel => exact ⟨_, (true), fz_, H', ⟨by first | omega | exact Nat.le_refl _⟩, dr_⟩
  rw [if_neg c7] at H
  have c7b0 : decide (8 < (wrap64 (bt a0 0))) = false := decide_eq_false c7
  clear c7
  (first | rw [c7b0] | (simp only [i64_w, i32_w]; rw [c7b0]) | skip)
  by_cases c8 : (wrap64 (bt a0 0)) > 0
  rotate_left
  ·rw [if_neg c8] at H
   have c8b0 : decide (0 < (wrap64 (bt a0 0))) = false := decide_eq_false c8
   clear c8
   have H' := a_ H
   clear H
   go_wp2
   repeat (go_quiet (fail); try go_wp2)
   go_meet
   case rel => exact ⟨_, (false), fz_, H', ⟨by first | omega | exact Nat.le_refl _⟩, dr_⟩
  rw [if_pos c8] at H
  have c8b0 : decide (0 < (wrap64 (bt a0 0))) = true := decide_eq_true c8
  clear c8
  by_cases c9 : (a0.extract 1 a0.size).toList = ([] : List UInt8)
  ·rw [if_pos c9] at H
   have c9b0 : ((a0.extract 1 a0.size).toList == ([] : List UInt8)) = true := beq_iff_eq.mpr c9
   have c9b1 : ((a0.extract 1 a0.size).toList != ([] : List UInt8)) = false := bne_eq_false_iff_eq.mpr c9
   clear c9
   have H' := a_ H
   clear H
   go_wp2
   repeat (go_quiet (fail); try go_wp2)
   go_meet
   case rel => exact ⟨_, (false), fz_, H', ⟨by first | omega | exact Nat.le_refl _⟩, dr_⟩
  rw [if_neg c9] at H
  have c9b0 : ((a0.extract 1 a0.size).toList == ([] : List UInt8)) = false := beq_eq_false_iff_ne.mpr c9
  have c9b1 : ((a0.extract 1 a0.size).toList != ([] : List UInt8)) = true := bne_iff_ne.mpr c9
  by_cases c10 : 0 < ((a0.extract 1 a0.size).size : Int)
  rotate_left
  ·rw [if_neg c10] at H
   exact absurd H (by simp)
  rw [if_pos c10] at H
  have c10b0 : decide (0 < ((a0.extract 1 a0.size).size : Int)) = true := decide_eq_true c10
  have c10b1 : decide (0 < (a0.extract 1 a0.size).size) = true := decide_eq_true (by omega)
  clear c10
  have H' := a_ H
  clear H
  have p11 : 0 ≤ (0 : Int) := (by omega)
  have q11 : 0 < (a0.extract 1 a0.size).size := (by have : (0 : Int) < ((a0.extract 1 a0.size).size : Int) := od_; omega)
  have hx11 : ∀ h : 0 < (a0.extract 1 a0.size).size, (((a0.extract 1 a0.size)[0]'h).toNat : Int) = bt (a0.extract 1 a0.size) 0 := bt_at (a0.extract 1 a0.size) 0
  clear p11
  have qi11 : (0 < ((a0.extract 1 a0.size).size : Int)) = True := eq_true od_
  replace q11 := eq_true q11
  (try (have c10b0x := c10b0; simp only [ByteArray.size_extract, ByteArray.size_append, Nat.min_self, Nat.sub_zero] at c10b0x))
  (try (have c10b1x := c10b1; simp only [ByteArray.size_extract, ByteArray.size_append, Nat.min_self, Nat.sub_zero] at c10b1x))
  (try (have q11x := q11; simp only [ByteArray.size_extract, ByteArray.size_append, Nat.min_self, Nat.sub_zero] at q11x))
  (try (have qi11x := qi11; simp only [ByteArray.size_extract, ByteArray.size_append, Nat.min_self, Nat.sub_zero] at qi11x))
  go_wp2
  repeat (go_quiet (fail); try go_wp2)
  go_meet
  case rel => exact ⟨_, (((bt (a0.extract 1 a0.size) 0) == 0)), fz_, H', ⟨by first | omega | exact Nat.le_refl _⟩, dr_⟩
 case rest =>
  clear HC6
  try clear c1
  try clear p1
  try clear q1
  try clear hx1
  try clear qi1
  try clear c2
  try clear c2b0
  try clear c2b1
  try clear p2
  try clear c3
  try clear c3b0
  try clear c3b1
  try clear p4
  try clear q4
  try clear hx4
  try clear qi4
  try clear c5
  try clear c5b0
  try clear c5b1
  try clear p6
  try clear c7
  try clear c7b0
  try clear c8
  try clear c8b0
  try clear c9
  try clear c9b0
  try clear c9b1
  try clear c10
  try clear c10b0
  try clear c10b1
  try clear p11
  try clear q11
  try clear hx11
  try clear qi11
  try clear p11
  try clear p4
  try clear q11
  try clear q4
  obtain ⟨kq, x13_5, rfl, HA, HJ5, ⟨mc5, rfl⟩⟩ := hcut
  cases kq with
  | zero => exact absurd HA.out (by simp [pack_TakeNumber.j0])
  | succ kj5 =>
   have H := HA.out
   clear HA
   simp only [pack_TakeNumber.j0] at H
   by_cases c12 : x13_5 = true
   ·subst c12
    have H1 : (some (0, (⟨#[]⟩ : ByteArray), 4)) = some (r1, r2, r3) := by rw [if_pos rfl] at H; exact H
    clear H
    have H := H1
    clear H1
    simp only [Option.some.injEq, Prod.mk.injEq] at H
    obtain ⟨rfl, rfl, rfl⟩ := H
    go_wp2
    repeat (go_quiet (fail); try go_wp2)
    go_ret3
    exact ⟨fz_, dr_⟩
   replace c12 := Bool.eq_false_iff.mpr c12
   subst c12
   have H1 : (if (wrap64 (bt a0 0)) > ((a0.extract 1 a0.size).size : Int) then (some (0, (⟨#[]⟩ : ByteArray), 3)) else (if 0 ≤ (wrap64 (bt a0 0)) then (if (wrap64 (bt a0 0)) ≤ ((a0.extract 1 a0.size).size : Int) then ((pack_value.f kj5 ((a0.extract 1 a0.size).extract 0 ((wrap64 (bt a0 0)) : Int).toNat)).bind fun t143 => (some (t143, (a0.extract 1 a0.size).extract ((wrap64 (bt a0 0)) : Int).toNat (a0.extract 1 a0.size).size, 0))) else (none)) else (none))) = some (r1, r2, r3) := by rw [if_neg (show ¬ (false = true) by decide)] at H; exact H
   clear H
   have H := H1
   clear H1
   by_cases c13 : (wrap64 (bt a0 0)) > ((a0.extract 1 a0.size).size : Int)
   ·rw [if_pos c13] at H
    have c13b0 : decide (((a0.extract 1 a0.size).size : Int) < (wrap64 (bt a0 0))) = true := decide_eq_true c13
    clear c13
    simp only [Option.some.injEq, Prod.mk.injEq] at H
    obtain ⟨rfl, rfl, rfl⟩ := H
    (try (have c13b0x := c13b0; simp only [ByteArray.size_extract, ByteArray.size_append, Nat.min_self, Nat.sub_zero] at c13b0x))
    go_wp2
    repeat (go_quiet (fail); try go_wp2)
    go_ret3
    exact ⟨fz_, dr_⟩
   rw [if_neg c13] at H
   have c13b0 : decide (((a0.extract 1 a0.size).size : Int) < (wrap64 (bt a0 0))) = false := decide_eq_false c13
   clear c13
   obtain ⟨ji14, hji14⟩ : ∃ j_ : Int, (wrap64 (bt a0 0)) = j_ := ⟨_, rfl⟩
   replace H : (if 0 ≤ (ji14) then (if (ji14) ≤ ((a0.extract 1 a0.size).size : Int) then ((pack_value.f kj5 ((a0.extract 1 a0.size).extract 0 ((ji14) : Int).toNat)).bind fun t143 => (some (t143, (a0.extract 1 a0.size).extract ((ji14) : Int).toNat (a0.extract 1 a0.size).size, 0))) else (none)) else (none)) = some (r1, r2, r3) := by first | (rw [hji14] at H; exact H) | (simp only [hji14] at H ⊢; exact H)
   (try rw [hji14] at c13b0)
   have hji14w : (IntKind.i64.wrap (bt a0 0)) = ji14 := (i64_w _).trans hji14
   by_cases c15 : 0 ≤ (ji14)
   rotate_left
   ·rw [if_neg c15] at H
    exact absurd H (by simp)
   rw [if_pos c15] at H
   have c15b0 := eq_true c15
   have c15b1 : decide (0 ≤ (ji14)) = true := decide_eq_true c15
   clear c15
   by_cases c16 : (ji14) ≤ ((a0.extract 1 a0.size).size : Int)
   rotate_left
   ·rw [if_neg c16] at H
    exact absurd H (by simp)
   rw [if_pos c16] at H
   have c16b0 := eq_true c16
   have c16b1 : decide ((ji14) ≤ ((a0.extract 1 a0.size).size : Int)) = true := decide_eq_true c16
   clear c16
   obtain ⟨t143, A170, H⟩ := Option.bind_eq_some_iff.mp H
   try dsimp only at H
   have A17 := a_ A170
   clear A170
   have c18b0 := eq_true (od_ : 0 ≤ (ji14))
   have c19b0 := eq_true (od_ : (ji14) ≤ ((a0.extract 1 a0.size).size : Int))
   simp only [Option.some.injEq, Prod.mk.injEq] at H
   obtain ⟨rfl, rfl, rfl⟩ := H
   (try (have c13b0x := c13b0; simp only [ByteArray.size_extract, ByteArray.size_append, Nat.min_self, Nat.sub_zero] at c13b0x))
   (try (have c16b0x := c16b0; simp only [ByteArray.size_extract, ByteArray.size_append, Nat.min_self, Nat.sub_zero] at c16b0x))
   (try (have c16b1x := c16b1; simp only [ByteArray.size_extract, ByteArray.size_append, Nat.min_self, Nat.sub_zero] at c16b1x))
   (try (have c19b0x := c19b0; simp only [ByteArray.size_extract, ByteArray.size_append, Nat.min_self, Nat.sub_zero] at c19b0x))
   go_wp2_with (first | (first | (go_at_call 23; (with_reducible refine (pack_value.calls kj5 ((a0.extract 1 a0.size).extract 0 ((ji14) : Int).toNat) t143 _ A17.out).mono ?_); rintro e w' ⟨rfl, ⟨nd, rfl⟩⟩; (try first | exact ⟨rfl, _, World.drewN_drewN _ _ _⟩ | exact ⟨rfl, _, Eq.trans (World.drewN_drewN _ _ _) (congrArg (World.drewN _) (Nat.add_assoc _ _ _))⟩))) | go_quiet (first | (go_at_call 23; (with_reducible refine (pack_value.calls kj5 ((a0.extract 1 a0.size).extract 0 ((ji14) : Int).toNat) t143 _ A17.out).mono ?_); rintro e w' ⟨rfl, ⟨nd, rfl⟩⟩; (try first | exact ⟨rfl, _, World.drewN_drewN _ _ _⟩ | exact ⟨rfl, _, Eq.trans (World.drewN_drewN _ _ _) (congrArg (World.drewN _) (Nat.add_assoc _ _ _))⟩))))
   go_ret3
   exact ⟨by first | rfl | (simp; done) | (simp only [← hji14] <;> (first | rfl | simp)) | (simp [*]; done), dr_⟩
/-! ### wal_Taker_Number: function 53 -/
def wal_Taker_Number.f (k : Nat) (s0_0 : ByteArray) (s0_1 : Bool) : Option (Int × ByteArray × Bool) := (pack_TakeNumber.f k s0_0).bind fun bt144 => (if s0_1 = true then (some (bt144.1, bt144.2.1, true)) else (some (bt144.1, bt144.2.1, (bt144.2.2 != 0))))
theorem wal_Taker_Number.mono : ∀ a0 a1 k, LeO (wal_Taker_Number.f k a0 a1) (wal_Taker_Number.f (k + 1) a0 a1) := by
 intro a0 a1 k
 unfold wal_Taker_Number.f
 repeat' with_reducible first | exact pack_TakeNumber.mono _ _ | exact LeO.refl _ | exact LeO.none _ | refine LeO.ite ?_ ?_ | refine LeO.bind ?_ (fun _ => ?_)
theorem wal_Taker_Number.calls (k : Nat) (g : Nat) (s0_0 : ByteArray) (s0_1 : Bool) (r1 : Int) (r2 : ByteArray) (r3 : Bool) (w0 w : World) (hI : IsS87 w0 w g s0_0 s0_1) (hB : Below w0.heap.size w0 w) (h : wal_Taker_Number.f k s0_0 s0_1 = some (r1, r2, r3)) :
  Calls Try.prog 53 #[.pointer (some ⟨g, 0, none⟩)] w fun e w' => e = .returned (.int .u64 r1) ∧ IsS87 w0 w' g r2 r3 ∧ Below w0.heap.size w0 w' ∧ KeepBut w w' g none := by
 have HI0 := a_ hI
 have HK := a_ (KeepBut.refl w g none)
 have HL := a_ hB.size
 clear hI
 have HW0 := a_ hB.size
 have HB := a_ hB
 clear hB
 have H : ((pack_TakeNumber.f k s0_0).bind fun bt144 => (if s0_1 = true then (some (bt144.1, bt144.2.1, true)) else (some (bt144.1, bt144.2.1, (bt144.2.2 != 0))))) = some (r1, r2, r3) := h
 clear h
 obtain ⟨⟨t144, t145, t146⟩, A20, H⟩ := Option.bind_eq_some_iff.mp H
 try dsimp only at H
 have A2 := a_ A20
 clear A20
 by_cases c3 : s0_1 = true
 ·subst c3
  have H1 : (some (t144, t145, true)) = some (r1, r2, r3) := by rw [if_pos rfl] at H; exact H
  clear H
  have H := H1
  clear H1
  simp only [Option.some.injEq, Prod.mk.injEq] at H
  obtain ⟨rfl, rfl, rfl⟩ := H
  obtain ⟨Tz4_, hTz4_, HGz4, hgz4⟩ := HI0.out
  have hcz4_0 := cellS87_0 HGz4
  have hcz4_1 := cellS87_1 HGz4
  have hfz4_0 := blk_frozen HGz4 0
  have hfz4_1 := blk_frozen HGz4 1
  clear HGz4 hgz4
  go_enter Try.func53, Try.ntmps53
  go_wp2_with (first | ((with_reducible refine gk_ 78 ?_); refine gl_ (some 11) Try.func78 #[.string s0_0] ?_; (with_reducible refine (pack_TakeNumber.calls k s0_0 t144 t145 t146 _ A2.out).mono ?_); rintro e w' ⟨rfl, ⟨nd, rfl⟩⟩; refine ⟨_, rfl, ?_⟩; (try (rw [drewN_self w]; generalize hq_ : World.drewN w _ = w5; have n0_ : Aside0 (IsS87 w0 w5 g s0_0 true) := ⟨by rw [← hq_]; exact (by repeat (first | (with_reducible first | exact HI0.out | apply IsS87.alloc | apply IsS87.drewN | apply IsS87.drew | apply IsS87.set_0 | apply IsS87.set_1) | exact HI0.out))⟩; have n1_ : Aside0 (KeepBut w w5 g none) := ⟨by rw [← hq_]; exact (by repeat (first | (with_reducible first | exact HK.out | apply KeepBut.set_ | apply keep_drewN | apply keep_drew | apply keep_alloc) | exact HK.out))⟩; have n2_ : Aside0 (Below w0.heap.size w0 w5) := ⟨by rw [← hq_]; exact (by repeat (first | (with_reducible first | exact HB.out | apply below_alloc | apply pw_below_drewN | apply below_drew1 | refine below_set ?_ (IsS87.ge HI0.out)) | exact HB.out))⟩; clear HI0 HK HB hq_; have HI0 := n0_; have HK := n1_; have HB := n2_; clear n0_ n1_ n2_; obtain ⟨Tz4_, hTz4_, HGz4, hgz4⟩ := HI0.out; have hcz4_0 := cellS87_0 HGz4; have hcz4_1 := cellS87_1 HGz4; have hfz4_0 := blk_frozen HGz4 0; have hfz4_1 := blk_frozen HGz4 1; clear HGz4 hgz4))))
  go_ret
  exact ⟨fz_, by repeat (first | (with_reducible first | exact HI0.out | apply IsS87.alloc | apply IsS87.drewN | apply IsS87.drew | apply IsS87.set_0 | apply IsS87.set_1) | exact HI0.out), by repeat (first | (with_reducible first | exact HB.out | apply below_alloc | apply pw_below_drewN | apply below_drew1 | refine below_set ?_ (IsS87.ge HI0.out)) | exact HB.out), by repeat (first | (with_reducible first | exact HK.out | apply KeepBut.set_ | apply keep_drewN | apply keep_drew | apply keep_alloc) | exact HK.out)⟩
 replace c3 := Bool.eq_false_iff.mpr c3
 subst c3
 have H1 : (some (t144, t145, (t146 != 0))) = some (r1, r2, r3) := by rw [if_neg (show ¬ (false = true) by decide)] at H; exact H
 clear H
 have H := H1
 clear H1
 simp only [Option.some.injEq, Prod.mk.injEq] at H
 obtain ⟨rfl, rfl, rfl⟩ := H
 obtain ⟨Tz6_, hTz6_, HGz6, hgz6⟩ := HI0.out
 have hcz6_0 := cellS87_0 HGz6
 have hcz6_1 := cellS87_1 HGz6
 have hfz6_0 := blk_frozen HGz6 0
 have hfz6_1 := blk_frozen HGz6 1
 clear HGz6 hgz6
 go_enter Try.func53, Try.ntmps53
 go_wp2_with (first | ((with_reducible refine gk_ 78 ?_); refine gl_ (some 11) Try.func78 #[.string s0_0] ?_; (with_reducible refine (pack_TakeNumber.calls k s0_0 t144 t145 t146 _ A2.out).mono ?_); rintro e w' ⟨rfl, ⟨nd, rfl⟩⟩; refine ⟨_, rfl, ?_⟩; (try (rw [drewN_self w]; generalize hq_ : World.drewN w _ = w7; have n0_ : Aside0 (IsS87 w0 w7 g s0_0 false) := ⟨by rw [← hq_]; exact (by repeat (first | (with_reducible first | exact HI0.out | apply IsS87.alloc | apply IsS87.drewN | apply IsS87.drew | apply IsS87.set_0 | apply IsS87.set_1) | exact HI0.out))⟩; have n1_ : Aside0 (KeepBut w w7 g none) := ⟨by rw [← hq_]; exact (by repeat (first | (with_reducible first | exact HK.out | apply KeepBut.set_ | apply keep_drewN | apply keep_drew | apply keep_alloc) | exact HK.out))⟩; have n2_ : Aside0 (Below w0.heap.size w0 w7) := ⟨by rw [← hq_]; exact (by repeat (first | (with_reducible first | exact HB.out | apply below_alloc | apply pw_below_drewN | apply below_drew1 | refine below_set ?_ (IsS87.ge HI0.out)) | exact HB.out))⟩; clear HI0 HK HB hq_; have HI0 := n0_; have HK := n1_; have HB := n2_; clear n0_ n1_ n2_; obtain ⟨Tz6_, hTz6_, HGz6, hgz6⟩ := HI0.out; have hcz6_0 := cellS87_0 HGz6; have hcz6_1 := cellS87_1 HGz6; have hfz6_0 := blk_frozen HGz6 0; have hfz6_1 := blk_frozen HGz6 1; clear HGz6 hgz6))))
 go_ret
 exact ⟨fz_, by repeat (first | (with_reducible first | exact HI0.out | apply IsS87.alloc | apply IsS87.drewN | apply IsS87.drew | apply IsS87.set_0 | apply IsS87.set_1) | exact HI0.out), by repeat (first | (with_reducible first | exact HB.out | apply below_alloc | apply pw_below_drewN | apply below_drew1 | refine below_set ?_ (IsS87.ge HI0.out)) | exact HB.out), by repeat (first | (with_reducible first | exact HK.out | apply KeepBut.set_ | apply keep_drewN | apply keep_drew | apply keep_alloc) | exact HK.out)⟩

/-! ### msg_Decode: function 15 -/
theorem isS_cell0 {w0 W : World} {g : Nat} {f0 : ByteArray} {f1 : Bool} (h : IsS87 w0 W g f0 f1) : W.cell? ⟨g, 0, none⟩ = some (.string f0) ∧ W.cell? ⟨g, 1, none⟩ = some (.bool f1) ∧ W.frozen? ⟨g, 0, none⟩ = false ∧ W.frozen? ⟨g, 1, none⟩ = false := by
 obtain ⟨T, _, h, _⟩ := h
 exact ⟨(blk_cell h 0).trans rfl, (blk_cell h 1).trans rfl, blk_frozen h 0, blk_frozen h 1⟩
theorem keep_blk {w w' : World} {g i : Nat} {o : Obj} (h : KeepBut w w' g none) (hi : i ≠ g) (hb : w.heap[i]? = some o) : w'.heap[i]? = some o := (h.2 i (blk_lt hb) hi (by simp)).trans hb
theorem msg_tflag.calls (k g : Nat) (s : ByteArray) (b : Bool) (n : Int) (s2 : ByteArray) (b2 : Bool) (w0 w : World) (hI : IsS87 w0 w g s b) (hB : Below w0.heap.size w0 w) (h : wal_Taker_Number.f k s b = some (n, s2, b2)) :
  Calls Try.prog 54 #[.agg #[.pointer (some ⟨g, 0, none⟩)]] w fun e w' => e = .returned (.bool (n == 1)) ∧ IsS87 w0 w' g s2 (b2 || decide (n > 1)) ∧ Below w0.heap.size w0 w' ∧ KeepBut w w' g none := by
 have HI := a_ hI
 have HB := a_ hB
 have A1 := a_ h
 have HG := a_ hI.lt
 clear hI hB h
 have hd : ∀ x : Bool, (if x = true then Value.bool true else Value.bool (decide (n > 1))) = .bool (x || decide (n > 1)) := fun x => by cases x <;> rfl
 cases b2
 all_goals cases hn : decide (n > 1)
 all_goals go_enter Try.func54, Try.ntmps54
 all_goals go_wp2_with (first | ((with_reducible refine gd_ 1 ?_); refine bx_ 1 #[.pointer (some ⟨g, 0, none⟩)] 54 ?_; intro ga hg w_ hbox hb; have BKa := a_ hbox; have NG := a_ (show ga ≠ g from by rw [hg]; exact Nat.ne_of_gt HG.out); have KP := a_ (KeepBut.of_below hb g none); replace HI := a_ (IsS87.below HI.out hb); replace HB := a_ (HB.out.trans (⟨hb.os, hb.tape, hb.output, hb.size, fun i hi => hb.block i (Nat.lt_of_lt_of_le hi HB.out.size)⟩ : Below w0.heap.size _ _)); clear hb hbox hg; have hca := (blk_cell BKa.out 0).trans rfl) | (go_at_call 53; (with_reducible refine (wal_Taker_Number.calls k g s b n s2 _ w0 _ HI.out HB.out A1.out).mono ?_); rintro e w4 ⟨rfl, hi, hb, hk⟩; replace HI := a_ hi; replace HB := a_ hb; replace BKa := a_ (keep_blk hk NG.out BKa.out); replace KP := a_ (KP.out.trans hk (.inl rfl)); clear hi hb hk; have hca2 := (blk_cell BKa.out 0).trans rfl; obtain ⟨hs0, hs1, hf0, hf1⟩ := isS_cell0 HI.out))
 all_goals go_region
 all_goals go_wp2
 all_goals go_ret
 all_goals exact ⟨rfl, IsS87.drew (IsS87.set_1 HI.out _), (Below.setCell (p := ⟨g, 1, none⟩) HB.out (IsS87.ge HI.out) _).drew, keep_drew (KeepBut.set_ KP.out 1 _)⟩
theorem msg_tmsg_0 (k g : Nat) (s : ByteArray) (b : Bool) (s1 : ByteArray) (b1 : Bool) (t : Int) (s2 : ByteArray) (b2 : Bool) (w0 w : World) (hI : IsS87 w0 w g s b) (hB : Below w0.heap.size w0 w) (h1 : wal_Taker_Number.f k s b = some (0, s1, b1)) (h2 : wal_Taker_Number.f k s1 b1 = some (t, s2, b2)) :
  Calls Try.prog 28 #[.agg #[.pointer (some ⟨g, 0, none⟩)]] w fun e w' => e = .returned (.agg #[.int .u8 0, .int .u64 t, .int .u64 0, .int .u64 0, .int .u64 0, .bool false, .slice none 0 0, .int .u64 0, .int .u64 0, .slice none 0 0, .string (⟨#[]⟩ : ByteArray)]) ∧ IsS87 w0 w' g s2 b2 ∧ Below w0.heap.size w0 w' ∧ KeepBut w w' g none := by
 have HI := a_ hI
 have HB := a_ hB
 have HG := a_ hI.lt
 have KP := a_ (KeepBut.refl w g none)
 have A1 := a_ h1
 have A2 := a_ h2
 clear hI hB h1 h2
 have hmin : min (0 : Int) 6 = 0 := by decide
 go_enter Try.func28, Try.ntmps28
 go_upto_region 3 with (first | ((with_reducible refine gd_ 1 ?_); refine bx_ 1 #[.pointer (some ⟨g, 0, none⟩)] 54 ?_; intro ga hg w_ hbox hb; have BKa := a_ hbox; have Na := a_ (show ga ≠ g from by rw [hg]; exact Nat.ne_of_gt (Nat.lt_of_lt_of_le HG.out (by first | exact Nat.le_refl _ | exact KP.out.1))); have GEa := a_ (show w.heap.size ≤ ga from by rw [hg]; first | exact Nat.le_refl _ | exact KP.out.1); have GMa := a_ (show w0.heap.size ≤ ga from by rw [hg]; exact HB.out.size);  replace KP := a_ (KP.out.trans (KeepBut.of_below hb g none) (.inl rfl)); replace HI := a_ (IsS87.below HI.out hb); replace HB := a_ (HB.out.trans (below_up hb HB.out.size)); clear hb hbox hg; have hca_a := (blk_cell BKa.out 0).trans rfl) | ((with_reducible refine gd_ 2 ?_); refine bx_ 2 #[.int .u8 0, .int .u64 0, .int .u64 0, .int .u64 0, .int .u64 0, .bool false, .slice none 0 0, .int .u64 0, .int .u64 0, .slice none 0 0, .string (⟨#[]⟩ : ByteArray)] 37 ?_; intro gr hg w_ hbox hb; have BKr := a_ hbox; have Nr := a_ (show gr ≠ g from by rw [hg]; exact Nat.ne_of_gt (Nat.lt_of_lt_of_le HG.out (by first | exact Nat.le_refl _ | exact KP.out.1))); have GEr := a_ (show w.heap.size ≤ gr from by rw [hg]; first | exact Nat.le_refl _ | exact KP.out.1); have GMr := a_ (show w0.heap.size ≤ gr from by rw [hg]; exact HB.out.size);  have NBa_r := nB_ hg BKa; have NBr_a := nC_ hg BKa; replace BKa := bB_ BKa hb; replace KP := a_ (KP.out.trans (KeepBut.of_below hb g none) (.inl rfl)); replace HI := a_ (IsS87.below HI.out hb); replace HB := a_ (HB.out.trans (below_up hb HB.out.size)); clear hb hbox hg; have hca_r := (blk_cell BKa.out 0).trans rfl) | (go_at_call 53; (with_reducible refine (wal_Taker_Number.calls k g s b 0 s1 _ w0 _ HI.out HB.out A1.out).mono ?_); rintro e w4 ⟨rfl, hi, hb, hk⟩; replace HI := a_ hi; replace HB := a_ hb; replace BKa := a_ (keep_blk hk Na.out BKa.out); replace BKr := a_ (keep_blk hk Nr.out BKr.out); replace KP := a_ (KP.out.trans hk (.inl rfl)); clear hi hb hk; have hcn_1 := (blk_cell BKa.out 0).trans rfl) | (go_at_call 53; (with_reducible refine (wal_Taker_Number.calls k g s1 b1 t s2 _ w0 _ HI.out HB.out A2.out).mono ?_); rintro e w4 ⟨rfl, hi, hb, hk⟩; replace HI := a_ hi; replace HB := a_ hb; replace BKa := a_ (keep_blk hk Na.out BKa.out); replace BKr := a_ (keep_blk hk Nr.out BKr.out); replace KP := a_ (KP.out.trans hk (.inl rfl)); clear hi hb hk; have hcn_2 := (blk_cell BKa.out 0).trans rfl) | ((with_reducible refine gd_ 4 ?_); refine bx_ 4 #[.int .u8 0, .int .u64 0, .int .u64 0, .int .u64 0, .int .u64 0, .bool false, .slice none 0 0, .int .u64 0, .int .u64 0, .slice none 0 0, .string (⟨#[]⟩ : ByteArray)] 37 ?_; intro gm hg w_ hbox hb; have BKm := a_ hbox; have Nm := a_ (show gm ≠ g from by rw [hg]; exact Nat.ne_of_gt (Nat.lt_of_lt_of_le HG.out (by first | exact Nat.le_refl _ | exact KP.out.1))); have GEm := a_ (show w.heap.size ≤ gm from by rw [hg]; first | exact Nat.le_refl _ | exact KP.out.1); have GMm := a_ (show w0.heap.size ≤ gm from by rw [hg]; exact HB.out.size);  have NBa_m := nB_ hg BKa; have NBm_a := nC_ hg BKa; have NBr_m := nB_ hg BKr; have NBm_r := nC_ hg BKr; replace BKa := bB_ BKa hb; replace BKr := bB_ BKr hb; replace KP := a_ (KP.out.trans (KeepBut.of_below hb g none) (.inl rfl)); replace HI := a_ (IsS87.below HI.out hb); replace HB := a_ (HB.out.trans (below_up hb HB.out.size)); clear hb hbox hg; have hca_m := (blk_cell BKa.out 0).trans rfl; have hnam := NBa_m.out; have hnma := NBm_a.out; have hnrm := NBr_m.out; have hnmr := NBm_r.out; have hcm_0 := (blk_cell BKm.out 0).trans rfl; have hfm_0 := blk_frozen BKm.out 0; have hcm_1 := (blk_cell BKm.out 1).trans rfl; have hfm_1 := blk_frozen BKm.out 1; have hcm_2 := (blk_cell BKm.out 2).trans rfl; have hfm_2 := blk_frozen BKm.out 2; have hcm_3 := (blk_cell BKm.out 3).trans rfl; have hfm_3 := blk_frozen BKm.out 3; have hcm_4 := (blk_cell BKm.out 4).trans rfl; have hfm_4 := blk_frozen BKm.out 4; have hcm_5 := (blk_cell BKm.out 5).trans rfl; have hfm_5 := blk_frozen BKm.out 5; have hcm_6 := (blk_cell BKm.out 6).trans rfl; have hfm_6 := blk_frozen BKm.out 6; have hcm_7 := (blk_cell BKm.out 7).trans rfl; have hfm_7 := blk_frozen BKm.out 7; have hcm_8 := (blk_cell BKm.out 8).trans rfl; have hfm_8 := blk_frozen BKm.out 8; have hcm_9 := (blk_cell BKm.out 9).trans rfl; have hfm_9 := blk_frozen BKm.out 9; have hcm_10 := (blk_cell BKm.out 10).trans rfl; have hfm_10 := blk_frozen BKm.out 10))
 refine gen_world (fun w1 => w1.heap[gm]? = some (.cells #[.int .u8 0, .int .u64 t, .int .u64 0, .int .u64 0, .int .u64 0, .bool false, .slice none 0 0, .int .u64 0, .int .u64 0, .slice none 0 0, .string (⟨#[]⟩ : ByteArray)] 37 (0, 0)) ∧ w1.heap[gr]? = some (.cells #[.int .u8 0, .int .u64 0, .int .u64 0, .int .u64 0, .int .u64 0, .bool false, .slice none 0 0, .int .u64 0, .int .u64 0, .slice none 0 0, .string (⟨#[]⟩ : ByteArray)] 37 (0, 0)) ∧ w1.heap[ga]? = some (.cells #[.pointer (some ⟨g, 0, none⟩)] 54 (0, 0)) ∧ IsS87 w0 w1 g s2 b2 ∧ Below w0.heap.size w0 w1 ∧ KeepBut w w1 g none) ⟨?_, (by (iterate 11 refine blk_far (p := ⟨gm, _, none⟩) ?_ NBr_m.out _); exact BKr.out), (by (iterate 11 refine blk_far (p := ⟨gm, _, none⟩) ?_ NBa_m.out _); exact BKa.out), (by (iterate 11 refine IsS87.far (p := ⟨gm, _, none⟩) ?_ (Ne.symm Nm.out) _); exact HI.out), (by (iterate 11 refine Below.setCell (p := ⟨gm, _, none⟩) ?_ GMm.out _); exact HB.out), (by (iterate 11 refine keep_far (p := ⟨gm, _, none⟩) ?_ GEm.out _); exact KP.out)⟩ ?_
 · refine Eq.trans (blk_set (blk_set (blk_set (blk_set (blk_set (blk_set (blk_set (blk_set (blk_set (blk_set (blk_set BKm.out 0 _) 1 _) 2 _) 3 _) 4 _) 5 _) 6 _) 7 _) 8 _) 9 _) 10 _) ?_
   simp only [List.setIfInBounds_toArray, List.set_cons_zero, List.set_cons_succ]
 clear BKm BKr BKa HI HB KP A1 A2 hcm_0 hfm_0 hcm_1 hfm_1 hcm_2 hfm_2 hcm_3 hfm_3 hcm_4 hfm_4 hcm_5 hfm_5 hcm_6 hfm_6 hcm_7 hfm_7 hcm_8 hfm_8 hcm_9 hfm_9 hcm_10 hfm_10
 rintro w1 ⟨BKm, BKr, BKa, HI, HB, KP⟩
 replace BKm := a_ BKm
 replace BKr := a_ BKr
 replace BKa := a_ BKa
 replace HI := a_ HI
 replace HB := a_ HB
 replace KP := a_ KP
 have hxa := (blk_cell BKa.out 0).trans rfl
 have hxm_0 := (blk_cell BKm.out 0).trans rfl
 have hxn_0 := blk_frozen BKm.out 0
 have hxr_0 := (blk_cell BKr.out 0).trans rfl
 have hxs_0 := blk_frozen BKr.out 0
 have hxm_1 := (blk_cell BKm.out 1).trans rfl
 have hxn_1 := blk_frozen BKm.out 1
 have hxr_1 := (blk_cell BKr.out 1).trans rfl
 have hxs_1 := blk_frozen BKr.out 1
 have hxm_2 := (blk_cell BKm.out 2).trans rfl
 have hxn_2 := blk_frozen BKm.out 2
 have hxr_2 := (blk_cell BKr.out 2).trans rfl
 have hxs_2 := blk_frozen BKr.out 2
 have hxm_3 := (blk_cell BKm.out 3).trans rfl
 have hxn_3 := blk_frozen BKm.out 3
 have hxr_3 := (blk_cell BKr.out 3).trans rfl
 have hxs_3 := blk_frozen BKr.out 3
 have hxm_4 := (blk_cell BKm.out 4).trans rfl
 have hxn_4 := blk_frozen BKm.out 4
 have hxr_4 := (blk_cell BKr.out 4).trans rfl
 have hxs_4 := blk_frozen BKr.out 4
 have hxm_5 := (blk_cell BKm.out 5).trans rfl
 have hxn_5 := blk_frozen BKm.out 5
 have hxr_5 := (blk_cell BKr.out 5).trans rfl
 have hxs_5 := blk_frozen BKr.out 5
 have hxm_6 := (blk_cell BKm.out 6).trans rfl
 have hxn_6 := blk_frozen BKm.out 6
 have hxr_6 := (blk_cell BKr.out 6).trans rfl
 have hxs_6 := blk_frozen BKr.out 6
 have hxm_7 := (blk_cell BKm.out 7).trans rfl
 have hxn_7 := blk_frozen BKm.out 7
 have hxr_7 := (blk_cell BKr.out 7).trans rfl
 have hxs_7 := blk_frozen BKr.out 7
 have hxm_8 := (blk_cell BKm.out 8).trans rfl
 have hxn_8 := blk_frozen BKm.out 8
 have hxr_8 := (blk_cell BKr.out 8).trans rfl
 have hxs_8 := blk_frozen BKr.out 8
 have hxm_9 := (blk_cell BKm.out 9).trans rfl
 have hxn_9 := blk_frozen BKm.out 9
 have hxr_9 := (blk_cell BKr.out 9).trans rfl
 have hxs_9 := blk_frozen BKr.out 9
 have hxm_10 := (blk_cell BKm.out 10).trans rfl
 have hxn_10 := blk_frozen BKm.out 10
 have hxr_10 := (blk_cell BKr.out 10).trans rfl
 have hxs_10 := blk_frozen BKr.out 10
 go_wp2
 refine bodyPost_ret (results_cell_row rfl _ _ gr 37 _ (0, 0) _ rfl (blk_set (blk_set (blk_set (blk_set (blk_set (blk_set (blk_set (blk_set (blk_set (blk_set (blk_set BKr.out 0 _) 1 _) 2 _) 3 _) 4 _) 5 _) 6 _) 7 _) 8 _) 9 _) 10 _) Try.underlying37 rfl (by kernel_rfl)) rfl ?_
 exact ⟨by simp only [List.setIfInBounds_toArray, List.set_cons_zero, List.set_cons_succ], (by (iterate 11 refine IsS87.far (p := ⟨gr, _, none⟩) ?_ (Ne.symm Nr.out) _); exact HI.out), (by (iterate 11 refine Below.setCell (p := ⟨gr, _, none⟩) ?_ GMr.out _); exact HB.out), (by (iterate 11 refine keep_far (p := ⟨gr, _, none⟩) ?_ GEr.out _); exact KP.out)⟩
theorem msg_tmsg_2 (k g : Nat) (s : ByteArray) (b : Bool) (s1 : ByteArray) (b1 : Bool) (t : Int) (s2 : ByteArray) (b2 : Bool) (f : Int) (s3 : ByteArray) (b3 : Bool) (w0 w : World) (hI : IsS87 w0 w g s b) (hB : Below w0.heap.size w0 w) (h1 : wal_Taker_Number.f k s b = some (2, s1, b1)) (h2 : wal_Taker_Number.f k s1 b1 = some (t, s2, b2)) (h3 : wal_Taker_Number.f k s2 b2 = some (f, s3, b3)) :
  Calls Try.prog 28 #[.agg #[.pointer (some ⟨g, 0, none⟩)]] w fun e w' => e = .returned (.agg #[.int .u8 2, .int .u64 t, .int .u64 0, .int .u64 0, .int .u64 0, .bool (f == 1), .slice none 0 0, .int .u64 0, .int .u64 0, .slice none 0 0, .string (⟨#[]⟩ : ByteArray)]) ∧ IsS87 w0 w' g s3 (b3 || decide (f > 1)) ∧ Below w0.heap.size w0 w' ∧ KeepBut w w' g none := by
 have HI := a_ hI
 have HB := a_ hB
 have HG := a_ hI.lt
 have KP := a_ (KeepBut.refl w g none)
 have A1 := a_ h1
 have A2 := a_ h2
 have A3 := a_ h3
 clear hI hB h1 h2 h3
 have hmin : min (2 : Int) 6 = 2 := by decide
 go_enter Try.func28, Try.ntmps28
 go_upto_region 3 with (first | ((with_reducible refine gd_ 1 ?_); refine bx_ 1 #[.pointer (some ⟨g, 0, none⟩)] 54 ?_; intro ga hg w_ hbox hb; have BKa := a_ hbox; have Na := a_ (show ga ≠ g from by rw [hg]; exact Nat.ne_of_gt (Nat.lt_of_lt_of_le HG.out (by first | exact Nat.le_refl _ | exact KP.out.1))); have GEa := a_ (show w.heap.size ≤ ga from by rw [hg]; first | exact Nat.le_refl _ | exact KP.out.1); have GMa := a_ (show w0.heap.size ≤ ga from by rw [hg]; exact HB.out.size);  replace KP := a_ (KP.out.trans (KeepBut.of_below hb g none) (.inl rfl)); replace HI := a_ (IsS87.below HI.out hb); replace HB := a_ (HB.out.trans (below_up hb HB.out.size)); clear hb hbox hg; have hca_a := (blk_cell BKa.out 0).trans rfl) | ((with_reducible refine gd_ 2 ?_); refine bx_ 2 #[.int .u8 0, .int .u64 0, .int .u64 0, .int .u64 0, .int .u64 0, .bool false, .slice none 0 0, .int .u64 0, .int .u64 0, .slice none 0 0, .string (⟨#[]⟩ : ByteArray)] 37 ?_; intro gr hg w_ hbox hb; have BKr := a_ hbox; have Nr := a_ (show gr ≠ g from by rw [hg]; exact Nat.ne_of_gt (Nat.lt_of_lt_of_le HG.out (by first | exact Nat.le_refl _ | exact KP.out.1))); have GEr := a_ (show w.heap.size ≤ gr from by rw [hg]; first | exact Nat.le_refl _ | exact KP.out.1); have GMr := a_ (show w0.heap.size ≤ gr from by rw [hg]; exact HB.out.size);  have NBa_r := nB_ hg BKa; have NBr_a := nC_ hg BKa; replace BKa := bB_ BKa hb; replace KP := a_ (KP.out.trans (KeepBut.of_below hb g none) (.inl rfl)); replace HI := a_ (IsS87.below HI.out hb); replace HB := a_ (HB.out.trans (below_up hb HB.out.size)); clear hb hbox hg; have hca_r := (blk_cell BKa.out 0).trans rfl) | (go_at_call 53; (with_reducible refine (wal_Taker_Number.calls k g s b 2 s1 _ w0 _ HI.out HB.out A1.out).mono ?_); rintro e w4 ⟨rfl, hi, hb, hk⟩; replace HI := a_ hi; replace HB := a_ hb; replace BKa := a_ (keep_blk hk Na.out BKa.out); replace BKr := a_ (keep_blk hk Nr.out BKr.out); replace KP := a_ (KP.out.trans hk (.inl rfl)); clear hi hb hk; have hcn_1 := (blk_cell BKa.out 0).trans rfl) | (go_at_call 53; (with_reducible refine (wal_Taker_Number.calls k g s1 b1 t s2 _ w0 _ HI.out HB.out A2.out).mono ?_); rintro e w4 ⟨rfl, hi, hb, hk⟩; replace HI := a_ hi; replace HB := a_ hb; replace BKa := a_ (keep_blk hk Na.out BKa.out); replace BKr := a_ (keep_blk hk Nr.out BKr.out); replace KP := a_ (KP.out.trans hk (.inl rfl)); clear hi hb hk; have hcn_2 := (blk_cell BKa.out 0).trans rfl) | ((with_reducible refine gd_ 4 ?_); refine bx_ 4 #[.int .u8 0, .int .u64 0, .int .u64 0, .int .u64 0, .int .u64 0, .bool false, .slice none 0 0, .int .u64 0, .int .u64 0, .slice none 0 0, .string (⟨#[]⟩ : ByteArray)] 37 ?_; intro gm hg w_ hbox hb; have BKm := a_ hbox; have Nm := a_ (show gm ≠ g from by rw [hg]; exact Nat.ne_of_gt (Nat.lt_of_lt_of_le HG.out (by first | exact Nat.le_refl _ | exact KP.out.1))); have GEm := a_ (show w.heap.size ≤ gm from by rw [hg]; first | exact Nat.le_refl _ | exact KP.out.1); have GMm := a_ (show w0.heap.size ≤ gm from by rw [hg]; exact HB.out.size);  have NBa_m := nB_ hg BKa; have NBm_a := nC_ hg BKa; have NBr_m := nB_ hg BKr; have NBm_r := nC_ hg BKr; replace BKa := bB_ BKa hb; replace BKr := bB_ BKr hb; replace KP := a_ (KP.out.trans (KeepBut.of_below hb g none) (.inl rfl)); replace HI := a_ (IsS87.below HI.out hb); replace HB := a_ (HB.out.trans (below_up hb HB.out.size)); clear hb hbox hg; have hca_m := (blk_cell BKa.out 0).trans rfl; have hnam := NBa_m.out; have hnma := NBm_a.out; have hnrm := NBr_m.out; have hnmr := NBm_r.out; have hcm_0 := (blk_cell BKm.out 0).trans rfl; have hfm_0 := blk_frozen BKm.out 0; have hcm_1 := (blk_cell BKm.out 1).trans rfl; have hfm_1 := blk_frozen BKm.out 1; have hcm_2 := (blk_cell BKm.out 2).trans rfl; have hfm_2 := blk_frozen BKm.out 2; have hcm_3 := (blk_cell BKm.out 3).trans rfl; have hfm_3 := blk_frozen BKm.out 3; have hcm_4 := (blk_cell BKm.out 4).trans rfl; have hfm_4 := blk_frozen BKm.out 4; have hcm_5 := (blk_cell BKm.out 5).trans rfl; have hfm_5 := blk_frozen BKm.out 5; have hcm_6 := (blk_cell BKm.out 6).trans rfl; have hfm_6 := blk_frozen BKm.out 6; have hcm_7 := (blk_cell BKm.out 7).trans rfl; have hfm_7 := blk_frozen BKm.out 7; have hcm_8 := (blk_cell BKm.out 8).trans rfl; have hfm_8 := blk_frozen BKm.out 8; have hcm_9 := (blk_cell BKm.out 9).trans rfl; have hfm_9 := blk_frozen BKm.out 9; have hcm_10 := (blk_cell BKm.out 10).trans rfl; have hfm_10 := blk_frozen BKm.out 10))
 refine gen_world (fun w1 => w1.heap[gm]? = some (.cells #[.int .u8 2, .int .u64 t, .int .u64 0, .int .u64 0, .int .u64 0, .bool false, .slice none 0 0, .int .u64 0, .int .u64 0, .slice none 0 0, .string (⟨#[]⟩ : ByteArray)] 37 (0, 0)) ∧ w1.heap[gr]? = some (.cells #[.int .u8 0, .int .u64 0, .int .u64 0, .int .u64 0, .int .u64 0, .bool false, .slice none 0 0, .int .u64 0, .int .u64 0, .slice none 0 0, .string (⟨#[]⟩ : ByteArray)] 37 (0, 0)) ∧ w1.heap[ga]? = some (.cells #[.pointer (some ⟨g, 0, none⟩)] 54 (0, 0)) ∧ IsS87 w0 w1 g s2 b2 ∧ Below w0.heap.size w0 w1 ∧ KeepBut w w1 g none) ⟨?_, (by (iterate 11 refine blk_far (p := ⟨gm, _, none⟩) ?_ NBr_m.out _); exact BKr.out), (by (iterate 11 refine blk_far (p := ⟨gm, _, none⟩) ?_ NBa_m.out _); exact BKa.out), (by (iterate 11 refine IsS87.far (p := ⟨gm, _, none⟩) ?_ (Ne.symm Nm.out) _); exact HI.out), (by (iterate 11 refine Below.setCell (p := ⟨gm, _, none⟩) ?_ GMm.out _); exact HB.out), (by (iterate 11 refine keep_far (p := ⟨gm, _, none⟩) ?_ GEm.out _); exact KP.out)⟩ ?_
 · refine Eq.trans (blk_set (blk_set (blk_set (blk_set (blk_set (blk_set (blk_set (blk_set (blk_set (blk_set (blk_set BKm.out 0 _) 1 _) 2 _) 3 _) 4 _) 5 _) 6 _) 7 _) 8 _) 9 _) 10 _) ?_
   simp only [List.setIfInBounds_toArray, List.set_cons_zero, List.set_cons_succ]
 clear BKm BKr BKa HI HB KP A1 A2 hcm_0 hfm_0 hcm_1 hfm_1 hcm_2 hfm_2 hcm_3 hfm_3 hcm_4 hfm_4 hcm_5 hfm_5 hcm_6 hfm_6 hcm_7 hfm_7 hcm_8 hfm_8 hcm_9 hfm_9 hcm_10 hfm_10
 rintro w1 ⟨BKm, BKr, BKa, HI, HB, KP⟩
 replace BKm := a_ BKm
 replace BKr := a_ BKr
 replace BKa := a_ BKa
 replace HI := a_ HI
 replace HB := a_ HB
 replace KP := a_ KP
 have hxa := (blk_cell BKa.out 0).trans rfl
 have hxm_0 := (blk_cell BKm.out 0).trans rfl
 have hxn_0 := blk_frozen BKm.out 0
 have hxr_0 := (blk_cell BKr.out 0).trans rfl
 have hxs_0 := blk_frozen BKr.out 0
 have hxm_1 := (blk_cell BKm.out 1).trans rfl
 have hxn_1 := blk_frozen BKm.out 1
 have hxr_1 := (blk_cell BKr.out 1).trans rfl
 have hxs_1 := blk_frozen BKr.out 1
 have hxm_2 := (blk_cell BKm.out 2).trans rfl
 have hxn_2 := blk_frozen BKm.out 2
 have hxr_2 := (blk_cell BKr.out 2).trans rfl
 have hxs_2 := blk_frozen BKr.out 2
 have hxm_3 := (blk_cell BKm.out 3).trans rfl
 have hxn_3 := blk_frozen BKm.out 3
 have hxr_3 := (blk_cell BKr.out 3).trans rfl
 have hxs_3 := blk_frozen BKr.out 3
 have hxm_4 := (blk_cell BKm.out 4).trans rfl
 have hxn_4 := blk_frozen BKm.out 4
 have hxr_4 := (blk_cell BKr.out 4).trans rfl
 have hxs_4 := blk_frozen BKr.out 4
 have hxm_5 := (blk_cell BKm.out 5).trans rfl
 have hxn_5 := blk_frozen BKm.out 5
 have hxr_5 := (blk_cell BKr.out 5).trans rfl
 have hxs_5 := blk_frozen BKr.out 5
 have hxm_6 := (blk_cell BKm.out 6).trans rfl
 have hxn_6 := blk_frozen BKm.out 6
 have hxr_6 := (blk_cell BKr.out 6).trans rfl
 have hxs_6 := blk_frozen BKr.out 6
 have hxm_7 := (blk_cell BKm.out 7).trans rfl
 have hxn_7 := blk_frozen BKm.out 7
 have hxr_7 := (blk_cell BKr.out 7).trans rfl
 have hxs_7 := blk_frozen BKr.out 7
 have hxm_8 := (blk_cell BKm.out 8).trans rfl
 have hxn_8 := blk_frozen BKm.out 8
 have hxr_8 := (blk_cell BKr.out 8).trans rfl
 have hxs_8 := blk_frozen BKr.out 8
 have hxm_9 := (blk_cell BKm.out 9).trans rfl
 have hxn_9 := blk_frozen BKm.out 9
 have hxr_9 := (blk_cell BKr.out 9).trans rfl
 have hxs_9 := blk_frozen BKr.out 9
 have hxm_10 := (blk_cell BKm.out 10).trans rfl
 have hxn_10 := blk_frozen BKm.out 10
 have hxr_10 := (blk_cell BKr.out 10).trans rfl
 have hxs_10 := blk_frozen BKr.out 10
 go_wp2_with (go_at_call 54; (with_reducible refine (msg_tflag.calls k g s2 b2 f s3 b3 w0 _ HI.out HB.out A3.out).mono ?_); rintro e w4 ⟨rfl, hi, hb, hk⟩; replace HI := a_ hi; replace HB := a_ hb; replace BKa := a_ (keep_blk hk Na.out BKa.out); replace BKr := a_ (keep_blk hk Nr.out BKr.out); replace BKm := a_ (keep_blk hk Nm.out BKm.out); replace KP := a_ (KP.out.trans hk (.inl rfl)); clear hi hb hk hxm_0 hxn_0 hxr_0 hxs_0 hxm_1 hxn_1 hxr_1 hxs_1 hxm_2 hxn_2 hxr_2 hxs_2 hxm_3 hxn_3 hxr_3 hxs_3 hxm_4 hxn_4 hxr_4 hxs_4 hxm_5 hxn_5 hxr_5 hxs_5 hxm_6 hxn_6 hxr_6 hxs_6 hxm_7 hxn_7 hxr_7 hxs_7 hxm_8 hxn_8 hxr_8 hxs_8 hxm_9 hxn_9 hxr_9 hxs_9 hxm_10 hxn_10 hxr_10 hxs_10; have hym_0 := (blk_cell BKm.out 0).trans rfl; have hyn_0 := blk_frozen BKm.out 0; have hyr_0 := (blk_cell BKr.out 0).trans rfl; have hys_0 := blk_frozen BKr.out 0; have hym_1 := (blk_cell BKm.out 1).trans rfl; have hyn_1 := blk_frozen BKm.out 1; have hyr_1 := (blk_cell BKr.out 1).trans rfl; have hys_1 := blk_frozen BKr.out 1; have hym_2 := (blk_cell BKm.out 2).trans rfl; have hyn_2 := blk_frozen BKm.out 2; have hyr_2 := (blk_cell BKr.out 2).trans rfl; have hys_2 := blk_frozen BKr.out 2; have hym_3 := (blk_cell BKm.out 3).trans rfl; have hyn_3 := blk_frozen BKm.out 3; have hyr_3 := (blk_cell BKr.out 3).trans rfl; have hys_3 := blk_frozen BKr.out 3; have hym_4 := (blk_cell BKm.out 4).trans rfl; have hyn_4 := blk_frozen BKm.out 4; have hyr_4 := (blk_cell BKr.out 4).trans rfl; have hys_4 := blk_frozen BKr.out 4; have hym_5 := (blk_cell BKm.out 5).trans rfl; have hyn_5 := blk_frozen BKm.out 5; have hyr_5 := (blk_cell BKr.out 5).trans rfl; have hys_5 := blk_frozen BKr.out 5; have hym_6 := (blk_cell BKm.out 6).trans rfl; have hyn_6 := blk_frozen BKm.out 6; have hyr_6 := (blk_cell BKr.out 6).trans rfl; have hys_6 := blk_frozen BKr.out 6; have hym_7 := (blk_cell BKm.out 7).trans rfl; have hyn_7 := blk_frozen BKm.out 7; have hyr_7 := (blk_cell BKr.out 7).trans rfl; have hys_7 := blk_frozen BKr.out 7; have hym_8 := (blk_cell BKm.out 8).trans rfl; have hyn_8 := blk_frozen BKm.out 8; have hyr_8 := (blk_cell BKr.out 8).trans rfl; have hys_8 := blk_frozen BKr.out 8; have hym_9 := (blk_cell BKm.out 9).trans rfl; have hyn_9 := blk_frozen BKm.out 9; have hyr_9 := (blk_cell BKr.out 9).trans rfl; have hys_9 := blk_frozen BKr.out 9; have hym_10 := (blk_cell BKm.out 10).trans rfl; have hyn_10 := blk_frozen BKm.out 10; have hyr_10 := (blk_cell BKr.out 10).trans rfl; have hys_10 := blk_frozen BKr.out 10)
 refine bodyPost_ret (results_cell_row rfl _ _ gr 37 _ (0, 0) _ rfl (blk_set (blk_set (blk_set (blk_set (blk_set (blk_set (blk_set (blk_set (blk_set (blk_set (blk_set (blk_far BKr.out (p := ⟨gm, _, none⟩) NBr_m.out _) 0 _) 1 _) 2 _) 3 _) 4 _) 5 _) 6 _) 7 _) 8 _) 9 _) 10 _) Try.underlying37 rfl (by kernel_rfl)) rfl ?_
 exact ⟨by simp only [List.setIfInBounds_toArray, List.set_cons_zero, List.set_cons_succ], (by (iterate 11 refine IsS87.far (p := ⟨gr, _, none⟩) ?_ (Ne.symm Nr.out) _); exact (IsS87.far HI.out (p := ⟨gm, _, none⟩) (Ne.symm Nm.out) _)), (by (iterate 11 refine Below.setCell (p := ⟨gr, _, none⟩) ?_ GMr.out _); exact (Below.setCell (p := ⟨gm, _, none⟩) HB.out GMm.out _)), (by (iterate 11 refine keep_far (p := ⟨gr, _, none⟩) ?_ GEr.out _); exact (keep_far (p := ⟨gm, _, none⟩) KP.out GEm.out _))⟩
theorem order_From.calls (s : ByteArray) (w : World) : Calls Try.prog 27 #[.string s] w fun e w' => e = .returned (.pointer (some ⟨w.heap.size, 0, none⟩)) ∧ w'.heap[w.heap.size]? = some (.cells #[.string s, .bool false] 91 (0, 0)) ∧ Below w.heap.size w w' := by
 have HB := a_ (Below.refl w.heap.size w)
 go_enter Try.func27, Try.ntmps27
 go_wp2_with (first | ((with_reducible refine gd_ 7 ?_); refine bx_ 7 #[.string s, .bool false] 91 ?_; intro g hg w_ hbox hb; subst hg; have BKg := a_ hbox; replace HB := hB_ (bl_ HB) hb; clear hb hbox))
 go_ret
 exact ⟨rfl, bk_ BKg, bl_ HB⟩
theorem msg_Check_nil (k : Nat) (kind t : Int) (ok : Bool) (c : Int) (w : World) (h : msg_Check.f k kind t 0 0 0 ok ([] : List S67) 0 0 ([] : List Int) (⟨#[]⟩ : ByteArray) = some c) : Calls Try.prog 19 #[.agg #[.int .u8 kind, .int .u64 t, .int .u64 0, .int .u64 0, .int .u64 0, .bool ok, .slice none 0 0, .int .u64 0, .int .u64 0, .slice none 0 0, .string (⟨#[]⟩ : ByteArray)]] w fun e w' => e = .returned (.int .i64 c) ∧ Below w.heap.size w w' := msg_Check.calls k kind t 0 0 0 ok none 0 [] 0 0 none 0 [] ⟨#[]⟩ c w (Kd.C_nil _ _) (Nat.le_refl _) (Kd.C_nil _ _) (Nat.le_refl _) h
theorem alloc_newD (w : World) (o : Obj) : (w.alloc o).heap[w.heap.size]? = some o := by simp [World.alloc, -World.alloc_eq]
def msg_Decode.fin (k : Nat) (rest : ByteArray) (why : Int) (kind t : Int) (ok : Bool) (left : ByteArray) (bad : Bool) : Option (Int × Int × Int × Int × Int × Bool × (List (S67)) × Int × Int × List Int × ByteArray × Int) := if why = 0 then (if rest.toList = ([] : List UInt8) then ((order_Taker_Over.f left bad).bind fun v => (if v.1 = true then ((msg_Check.f k kind t 0 0 0 ok ([] : List S67) 0 0 ([] : List Int) (⟨#[]⟩ : ByteArray)).bind fun c => (if c = 0 then (some (kind, t, 0, 0, 0, ok, ([] : List S67), 0, 0, ([] : List Int), (⟨#[]⟩ : ByteArray), 0)) else (some (0, 0, 0, 0, 0, false, ([] : List S67), 0, 0, ([] : List Int), (⟨#[]⟩ : ByteArray), 4)))) else (some (0, 0, 0, 0, 0, false, ([] : List S67), 0, 0, ([] : List Int), (⟨#[]⟩ : ByteArray), 4)))) else (some (0, 0, 0, 0, 0, false, ([] : List S67), 0, 0, ([] : List Int), (⟨#[]⟩ : ByteArray), 4))) else (some (0, 0, 0, 0, 0, false, ([] : List S67), 0, 0, ([] : List Int), (⟨#[]⟩ : ByteArray), 4))
def msg_Decode.f (k : Nat) (a0 : ByteArray) : Option (Int × Int × Int × Int × Int × Bool × (List (S67)) × Int × Int × List Int × ByteArray × Int) := (pack_TakeFrame.f k a0).bind fun T => (wal_Taker_Number.f k T.1 false).bind fun x => (wal_Taker_Number.f k x.2.1 x.2.2).bind fun y => (if x.1 = 2 then ((wal_Taker_Number.f k y.2.1 y.2.2).bind fun z => msg_Decode.fin k T.2.1 T.2.2 2 y.1 (z.1 == 1) z.2.1 (z.2.2 || decide (z.1 > 1))) else (if x.1 = 0 then (msg_Decode.fin k T.2.1 T.2.2 0 y.1 false y.2.1 y.2.2) else none))
theorem msg_Decode.fin_mono : ∀ a b c d e f g k, LeO (msg_Decode.fin k a b c d e f g) (msg_Decode.fin (k + 1) a b c d e f g) := by
 intro a b c d e f g k
 unfold msg_Decode.fin
 repeat' with_reducible first | exact msg_Check.mono _ _ _ _ _ _ _ _ _ _ _ _ | exact LeO.refl _ | exact LeO.none _ | refine LeO.ite ?_ ?_ | refine LeO.bind ?_ (fun _ => ?_)
theorem msg_Decode.mono : ∀ a0 k, LeO (msg_Decode.f k a0) (msg_Decode.f (k + 1) a0) := by
 intro a0 k
 unfold msg_Decode.f
 repeat' with_reducible first | exact pack_TakeFrame.mono _ _ | exact wal_Taker_Number.mono _ _ _ | exact msg_Decode.fin_mono _ _ _ _ _ _ _ _ | exact LeO.refl _ | exact LeO.none _ | refine LeO.ite ?_ ?_ | refine LeO.bind ?_ (fun _ => ?_)
theorem msg_Decode_0 (k : Nat) (a0 p rest : ByteArray) (why : Int) (s1 : ByteArray) (b1 : Bool) (t : Int) (s2 : ByteArray) (b2 : Bool) (r1 r2 r3 r4 r5 : Int) (r6 : Bool) (r7 : List S67) (r8 r9 : Int) (r10 : List Int) (r11 : ByteArray) (r12 : Int) (w : World) (h0 : pack_TakeFrame.f k a0 = some (p, rest, why)) (h1 : wal_Taker_Number.f k p false = some (0, s1, b1)) (h2 : wal_Taker_Number.f k s1 b1 = some (t, s2, b2)) (h : msg_Decode.fin k rest why 0 t false s2 b2 = some (r1, r2, r3, r4, r5, r6, r7, r8, r9, r10, r11, r12)) :
  Calls Try.prog 15 #[.string a0] w fun e w' => (e = .returned (.tuple #[.agg #[.int .u8 r1, .int .u64 r2, .int .u64 r3, .int .u64 r4, .int .u64 r5, .bool r6, .slice none 0 0, .int .u64 r8, .int .u64 r9, .slice none 0 0, .string r11], .int .i64 r12]) ∧ r7 = [] ∧ r10 = []) ∧ Below w.heap.size w w' := by
 have HB := a_ (Below.refl w.heap.size w)
 have A0 := a_ h0
 have A1 := a_ h1
 have A2 := a_ h2
 have H0 := a_ h
 clear h0 h1 h2 h
 go_enter Try.func15, Try.ntmps15
 go_upto_region 3 with (first | ((with_reducible refine gd_ 2 ?_); refine bx_ 2 #[.int .u8 0, .int .u64 0, .int .u64 0, .int .u64 0, .int .u64 0, .bool false, .slice none 0 0, .int .u64 0, .int .u64 0, .slice none 0 0, .string (⟨#[]⟩ : ByteArray)] 37 ?_; intro gr hg w_ hbox hb; have BKr := a_ hbox; have GEr := a_ (bs_0 hg HB); replace HB := hB_ (bl_ HB) hb; clear hb hbox hg) | (go_at_call 12; (with_reducible refine (pack_TakeFrame.calls k a0 p rest why _ A0.out).mono ?_); rintro e w4 ⟨rfl, hb⟩; replace BKr := bB_ BKr hb; replace HB := hB_ (bl_1 HB GEr) hb; clear hb) | (go_at_call 27; (with_reducible refine (order_From.calls p _).mono ?_); rintro e w5 ⟨rfl, hs, hb⟩; have NRg := a_ (Nat.ne_of_lt (blk_lt BKr.out)); have GEg := a_ HB.out.size; replace BKr := bB_ BKr hb; have HI := a_ (show IsS87 w _ _ p false from ⟨91, by decide, hs, GEg.out⟩); replace HB := hB_ (bl_1 HB GEr) hb; clear hb hs))
 have NRt := a_ (Nat.ne_of_lt (blk_lt BKr.out))
 have NTg := a_ (Nat.ne_of_gt HI.out.lt)
 refine gen_world (fun w1 => w1.heap[w5.heap.size]? = some (.cells #[.pointer (some ⟨w4.heap.size, 0, none⟩)] 54 (0, 0)) ∧ w1.heap[gr]? = some (.cells #[.int .u8 0, .int .u64 0, .int .u64 0, .int .u64 0, .int .u64 0, .bool false, .slice none 0 0, .int .u64 0, .int .u64 0, .slice none 0 0, .string (⟨#[]⟩ : ByteArray)] 37 (0, 0)) ∧ IsS87 w w1 w4.heap.size p false ∧ Below w.heap.size w w1) ⟨alloc_newD _ _, blk_alloc BKr.out _, HI.out.alloc _, HB.out.alloc HB.out.size _⟩ ?_
 clear BKr HI HB
 rintro w1 ⟨BKt, BKr, HI, HB⟩
 generalize w5.heap.size = gt at *
 generalize w4.heap.size = g at *
 replace BKt := a_ BKt
 replace BKr := a_ BKr
 replace HI := a_ HI
 replace HB := a_ HB
 have hxt := (blk_cell BKt.out 0).trans rfl
 go_upto_region 4 with (first | (go_at_call 28; (with_reducible refine (msg_tmsg_0 k g p false s1 b1 t s2 b2 w _ HI.out HB.out A1.out A2.out).mono ?_); rintro e w6 ⟨rfl, hi, hb, hk⟩; replace HI := a_ hi; replace BKr := a_ (keep_blk hk NRg.out BKr.out); replace BKt := a_ (keep_blk hk NTg.out BKt.out); replace HB := a_ hb; clear hi hb hk))
 have NMg := a_ (Nat.ne_of_gt HI.out.lt)
 have NRm := a_ (Nat.ne_of_lt (blk_lt BKr.out))
 refine gen_world (fun w1 => w1.heap[w6.heap.size]? = some (.cells #[.int .u8 0, .int .u64 t, .int .u64 0, .int .u64 0, .int .u64 0, .bool false, .slice none 0 0, .int .u64 0, .int .u64 0, .slice none 0 0, .string (⟨#[]⟩ : ByteArray)] 37 (0, 0)) ∧ w1.heap[gt]? = some (.cells #[.pointer (some ⟨g, 0, none⟩)] 54 (0, 0)) ∧ w1.heap[gr]? = some (.cells #[.int .u8 0, .int .u64 0, .int .u64 0, .int .u64 0, .int .u64 0, .bool false, .slice none 0 0, .int .u64 0, .int .u64 0, .slice none 0 0, .string (⟨#[]⟩ : ByteArray)] 37 (0, 0)) ∧ IsS87 w w1 g s2 b2 ∧ Below w.heap.size w w1) ⟨alloc_newD _ _, blk_alloc BKt.out _, blk_alloc BKr.out _, HI.out.alloc _, HB.out.alloc HB.out.size _⟩ ?_
 clear BKr BKt HI HB hxt
 rintro w9 ⟨BKm, BKt, BKr, HI, HB⟩
 generalize w6.heap.size = gm at *
 replace BKm := a_ BKm
 replace BKt := a_ BKt
 replace BKr := a_ BKr
 replace HI := a_ HI
 replace HB := a_ HB
 have hxt := (blk_cell BKt.out 0).trans rfl
 have hxm_0 := (blk_cell BKm.out 0).trans rfl
 have hxr_0 := (blk_cell BKr.out 0).trans rfl
 have hxs_0 := blk_frozen BKr.out 0
 have hxm_1 := (blk_cell BKm.out 1).trans rfl
 have hxr_1 := (blk_cell BKr.out 1).trans rfl
 have hxs_1 := blk_frozen BKr.out 1
 have hxm_2 := (blk_cell BKm.out 2).trans rfl
 have hxr_2 := (blk_cell BKr.out 2).trans rfl
 have hxs_2 := blk_frozen BKr.out 2
 have hxm_3 := (blk_cell BKm.out 3).trans rfl
 have hxr_3 := (blk_cell BKr.out 3).trans rfl
 have hxs_3 := blk_frozen BKr.out 3
 have hxm_4 := (blk_cell BKm.out 4).trans rfl
 have hxr_4 := (blk_cell BKr.out 4).trans rfl
 have hxs_4 := blk_frozen BKr.out 4
 have hxm_5 := (blk_cell BKm.out 5).trans rfl
 have hxr_5 := (blk_cell BKr.out 5).trans rfl
 have hxs_5 := blk_frozen BKr.out 5
 have hxm_6 := (blk_cell BKm.out 6).trans rfl
 have hxr_6 := (blk_cell BKr.out 6).trans rfl
 have hxs_6 := blk_frozen BKr.out 6
 have hxm_7 := (blk_cell BKm.out 7).trans rfl
 have hxr_7 := (blk_cell BKr.out 7).trans rfl
 have hxs_7 := blk_frozen BKr.out 7
 have hxm_8 := (blk_cell BKm.out 8).trans rfl
 have hxr_8 := (blk_cell BKr.out 8).trans rfl
 have hxs_8 := blk_frozen BKr.out 8
 have hxm_9 := (blk_cell BKm.out 9).trans rfl
 have hxr_9 := (blk_cell BKr.out 9).trans rfl
 have hxs_9 := blk_frozen BKr.out 9
 have hxm_10 := (blk_cell BKm.out 10).trans rfl
 have hxr_10 := (blk_cell BKr.out 10).trans rfl
 have hxs_10 := blk_frozen BKr.out 10
 have H := H0.out
 unfold msg_Decode.fin at H
 clear H0
 by_cases c1 : why = 0
 rotate_left
 · rw [if_neg c1] at H
   have c1b := beq_eq_false_iff_ne.mpr c1
   have c1d : (why != 0) = true := bne_iff_ne.mpr c1
   clear c1
   simp only [Option.some.injEq, Prod.mk.injEq] at H
   obtain ⟨rfl, rfl, rfl, rfl, rfl, rfl, rfl, rfl, rfl, rfl, rfl, rfl⟩ := H
   go_wp2
   refine bodyPost_ret (results_ct rfl _ _ gr 37 _ (0, 0) _ rfl (blk_set (blk_set (blk_set (blk_set (blk_set (blk_set (blk_set (blk_set (blk_set (blk_set (blk_set BKr.out 0 _) 1 _) 2 _) 3 _) 4 _) 5 _) 6 _) 7 _) 8 _) 9 _) 10 _) Try.underlying37 rfl (by kernel_rfl)) rfl ?_
   exact ⟨by simp only [List.setIfInBounds_toArray, List.set_cons_zero, List.set_cons_succ]; rfl, (by (iterate 11 refine Below.setCell (p := ⟨gr, _, none⟩) ?_ GEr.out _); exact HB.out)⟩
 rw [if_pos c1] at H
 have c1b : (why == 0) = true := beq_iff_eq.mpr c1
 have c1d : (why != 0) = false := bne_eq_false_iff_eq.mpr c1
 clear c1
 by_cases c2 : rest.toList = ([] : List UInt8)
 rotate_left
 · rw [if_neg c2] at H
   have c2b : (rest.toList == ([] : List UInt8)) = false := beq_eq_false_iff_ne.mpr c2
   have c2d : (rest.toList != ([] : List UInt8)) = true := bne_iff_ne.mpr c2
   clear c2
   simp only [Option.some.injEq, Prod.mk.injEq] at H
   obtain ⟨rfl, rfl, rfl, rfl, rfl, rfl, rfl, rfl, rfl, rfl, rfl, rfl⟩ := H
   go_wp2
   refine bodyPost_ret (results_ct rfl _ _ gr 37 _ (0, 0) _ rfl (blk_set (blk_set (blk_set (blk_set (blk_set (blk_set (blk_set (blk_set (blk_set (blk_set (blk_set BKr.out 0 _) 1 _) 2 _) 3 _) 4 _) 5 _) 6 _) 7 _) 8 _) 9 _) 10 _) Try.underlying37 rfl (by kernel_rfl)) rfl ?_
   exact ⟨by simp only [List.setIfInBounds_toArray, List.set_cons_zero, List.set_cons_succ]; rfl, (by (iterate 11 refine Below.setCell (p := ⟨gr, _, none⟩) ?_ GEr.out _); exact HB.out)⟩
 rw [if_pos c2] at H
 have c2b : (rest.toList == ([] : List UInt8)) = true := beq_iff_eq.mpr c2
 have c2d : (rest.toList != ([] : List UInt8)) = false := bne_eq_false_iff_eq.mpr c2
 clear c2
 obtain ⟨⟨v1, v2, v3⟩, AV0, H⟩ := Option.bind_eq_some_iff.mp H
 have AV := a_ AV0
 clear AV0
 dsimp only at H
 cases v1
 · rw [if_neg (by decide)] at H
   simp only [Option.some.injEq, Prod.mk.injEq] at H
   obtain ⟨rfl, rfl, rfl, rfl, rfl, rfl, rfl, rfl, rfl, rfl, rfl, rfl⟩ := H
   go_wp2_with (first | (go_at_call 29; (with_reducible refine (order_Taker_Over.calls g s2 b2 _ v2 v3 w _ HI.out HB.out AV.out).mono ?_); rintro e w7 ⟨rfl, hi, hb, hk⟩; replace HI := a_ hi; replace BKr := a_ (keep_blk hk NRg.out BKr.out); replace BKm := a_ (keep_blk hk NMg.out BKm.out); replace HB := a_ hb; clear hi hb hk; have ho_0 := (blk_cell BKm.out 0).trans rfl; have hp_0 := (blk_cell BKr.out 0).trans rfl; have hq_0 := blk_frozen BKr.out 0; have ho_1 := (blk_cell BKm.out 1).trans rfl; have hp_1 := (blk_cell BKr.out 1).trans rfl; have hq_1 := blk_frozen BKr.out 1; have ho_2 := (blk_cell BKm.out 2).trans rfl; have hp_2 := (blk_cell BKr.out 2).trans rfl; have hq_2 := blk_frozen BKr.out 2; have ho_3 := (blk_cell BKm.out 3).trans rfl; have hp_3 := (blk_cell BKr.out 3).trans rfl; have hq_3 := blk_frozen BKr.out 3; have ho_4 := (blk_cell BKm.out 4).trans rfl; have hp_4 := (blk_cell BKr.out 4).trans rfl; have hq_4 := blk_frozen BKr.out 4; have ho_5 := (blk_cell BKm.out 5).trans rfl; have hp_5 := (blk_cell BKr.out 5).trans rfl; have hq_5 := blk_frozen BKr.out 5; have ho_6 := (blk_cell BKm.out 6).trans rfl; have hp_6 := (blk_cell BKr.out 6).trans rfl; have hq_6 := blk_frozen BKr.out 6; have ho_7 := (blk_cell BKm.out 7).trans rfl; have hp_7 := (blk_cell BKr.out 7).trans rfl; have hq_7 := blk_frozen BKr.out 7; have ho_8 := (blk_cell BKm.out 8).trans rfl; have hp_8 := (blk_cell BKr.out 8).trans rfl; have hq_8 := blk_frozen BKr.out 8; have ho_9 := (blk_cell BKm.out 9).trans rfl; have hp_9 := (blk_cell BKr.out 9).trans rfl; have hq_9 := blk_frozen BKr.out 9; have ho_10 := (blk_cell BKm.out 10).trans rfl; have hp_10 := (blk_cell BKr.out 10).trans rfl; have hq_10 := blk_frozen BKr.out 10))
   refine bodyPost_ret (results_ct rfl _ _ gr 37 _ (0, 0) _ rfl (blk_set (blk_set (blk_set (blk_set (blk_set (blk_set (blk_set (blk_set (blk_set (blk_set (blk_set BKr.out 0 _) 1 _) 2 _) 3 _) 4 _) 5 _) 6 _) 7 _) 8 _) 9 _) 10 _) Try.underlying37 rfl (by kernel_rfl)) rfl ?_
   exact ⟨by simp only [List.setIfInBounds_toArray, List.set_cons_zero, List.set_cons_succ]; rfl, (by (iterate 11 refine Below.setCell (p := ⟨gr, _, none⟩) ?_ GEr.out _); exact HB.out)⟩
 rw [if_pos rfl] at H
 obtain ⟨c, AC0, H⟩ := Option.bind_eq_some_iff.mp H
 have AC := a_ AC0
 clear AC0
 by_cases c3 : c = 0
 rotate_left
 · rw [if_neg c3] at H
   have c3b : (c == 0) = false := beq_eq_false_iff_ne.mpr c3
   have c3d : (c != 0) = true := bne_iff_ne.mpr c3
   clear c3
   simp only [Option.some.injEq, Prod.mk.injEq] at H
   obtain ⟨rfl, rfl, rfl, rfl, rfl, rfl, rfl, rfl, rfl, rfl, rfl, rfl⟩ := H
   go_wp2_with (first | (go_at_call 29; (with_reducible refine (order_Taker_Over.calls g s2 b2 _ v2 v3 w _ HI.out HB.out AV.out).mono ?_); rintro e w7 ⟨rfl, hi, hb, hk⟩; replace HI := a_ hi; replace BKr := a_ (keep_blk hk NRg.out BKr.out); replace BKm := a_ (keep_blk hk NMg.out BKm.out); replace HB := a_ hb; clear hi hb hk; have ho_0 := (blk_cell BKm.out 0).trans rfl; have hp_0 := (blk_cell BKr.out 0).trans rfl; have hq_0 := blk_frozen BKr.out 0; have ho_1 := (blk_cell BKm.out 1).trans rfl; have hp_1 := (blk_cell BKr.out 1).trans rfl; have hq_1 := blk_frozen BKr.out 1; have ho_2 := (blk_cell BKm.out 2).trans rfl; have hp_2 := (blk_cell BKr.out 2).trans rfl; have hq_2 := blk_frozen BKr.out 2; have ho_3 := (blk_cell BKm.out 3).trans rfl; have hp_3 := (blk_cell BKr.out 3).trans rfl; have hq_3 := blk_frozen BKr.out 3; have ho_4 := (blk_cell BKm.out 4).trans rfl; have hp_4 := (blk_cell BKr.out 4).trans rfl; have hq_4 := blk_frozen BKr.out 4; have ho_5 := (blk_cell BKm.out 5).trans rfl; have hp_5 := (blk_cell BKr.out 5).trans rfl; have hq_5 := blk_frozen BKr.out 5; have ho_6 := (blk_cell BKm.out 6).trans rfl; have hp_6 := (blk_cell BKr.out 6).trans rfl; have hq_6 := blk_frozen BKr.out 6; have ho_7 := (blk_cell BKm.out 7).trans rfl; have hp_7 := (blk_cell BKr.out 7).trans rfl; have hq_7 := blk_frozen BKr.out 7; have ho_8 := (blk_cell BKm.out 8).trans rfl; have hp_8 := (blk_cell BKr.out 8).trans rfl; have hq_8 := blk_frozen BKr.out 8; have ho_9 := (blk_cell BKm.out 9).trans rfl; have hp_9 := (blk_cell BKr.out 9).trans rfl; have hq_9 := blk_frozen BKr.out 9; have ho_10 := (blk_cell BKm.out 10).trans rfl; have hp_10 := (blk_cell BKr.out 10).trans rfl; have hq_10 := blk_frozen BKr.out 10) | (go_at_call 19; (with_reducible refine (msg_Check_nil k _ _ _ c _ AC.out).mono ?_); rintro e w8 ⟨rfl, hb⟩; replace BKr := bB_ BKr hb; replace BKm := bB_ BKm hb; replace HB := a_ (HB.out.trans (below_up hb HB.out.size)); clear hb; have ht_0 := (blk_cell BKm.out 0).trans rfl; have hu_0 := (blk_cell BKr.out 0).trans rfl; have hv_0 := blk_frozen BKr.out 0; have ht_1 := (blk_cell BKm.out 1).trans rfl; have hu_1 := (blk_cell BKr.out 1).trans rfl; have hv_1 := blk_frozen BKr.out 1; have ht_2 := (blk_cell BKm.out 2).trans rfl; have hu_2 := (blk_cell BKr.out 2).trans rfl; have hv_2 := blk_frozen BKr.out 2; have ht_3 := (blk_cell BKm.out 3).trans rfl; have hu_3 := (blk_cell BKr.out 3).trans rfl; have hv_3 := blk_frozen BKr.out 3; have ht_4 := (blk_cell BKm.out 4).trans rfl; have hu_4 := (blk_cell BKr.out 4).trans rfl; have hv_4 := blk_frozen BKr.out 4; have ht_5 := (blk_cell BKm.out 5).trans rfl; have hu_5 := (blk_cell BKr.out 5).trans rfl; have hv_5 := blk_frozen BKr.out 5; have ht_6 := (blk_cell BKm.out 6).trans rfl; have hu_6 := (blk_cell BKr.out 6).trans rfl; have hv_6 := blk_frozen BKr.out 6; have ht_7 := (blk_cell BKm.out 7).trans rfl; have hu_7 := (blk_cell BKr.out 7).trans rfl; have hv_7 := blk_frozen BKr.out 7; have ht_8 := (blk_cell BKm.out 8).trans rfl; have hu_8 := (blk_cell BKr.out 8).trans rfl; have hv_8 := blk_frozen BKr.out 8; have ht_9 := (blk_cell BKm.out 9).trans rfl; have hu_9 := (blk_cell BKr.out 9).trans rfl; have hv_9 := blk_frozen BKr.out 9; have ht_10 := (blk_cell BKm.out 10).trans rfl; have hu_10 := (blk_cell BKr.out 10).trans rfl; have hv_10 := blk_frozen BKr.out 10))
   refine bodyPost_ret (results_ct rfl _ _ gr 37 _ (0, 0) _ rfl (blk_set (blk_set (blk_set (blk_set (blk_set (blk_set (blk_set (blk_set (blk_set (blk_set (blk_set BKr.out 0 _) 1 _) 2 _) 3 _) 4 _) 5 _) 6 _) 7 _) 8 _) 9 _) 10 _) Try.underlying37 rfl (by kernel_rfl)) rfl ?_
   exact ⟨by simp only [List.setIfInBounds_toArray, List.set_cons_zero, List.set_cons_succ]; rfl, (by (iterate 11 refine Below.setCell (p := ⟨gr, _, none⟩) ?_ GEr.out _); exact HB.out)⟩
 rw [if_pos c3] at H
 have c3b : (c == 0) = true := beq_iff_eq.mpr c3
 have c3d : (c != 0) = false := bne_eq_false_iff_eq.mpr c3
 clear c3
 simp only [Option.some.injEq, Prod.mk.injEq] at H
 obtain ⟨rfl, rfl, rfl, rfl, rfl, rfl, rfl, rfl, rfl, rfl, rfl, rfl⟩ := H
 go_wp2_with (first | (go_at_call 29; (with_reducible refine (order_Taker_Over.calls g s2 b2 _ v2 v3 w _ HI.out HB.out AV.out).mono ?_); rintro e w7 ⟨rfl, hi, hb, hk⟩; replace HI := a_ hi; replace BKr := a_ (keep_blk hk NRg.out BKr.out); replace BKm := a_ (keep_blk hk NMg.out BKm.out); replace HB := a_ hb; clear hi hb hk; have ho_0 := (blk_cell BKm.out 0).trans rfl; have hp_0 := (blk_cell BKr.out 0).trans rfl; have hq_0 := blk_frozen BKr.out 0; have ho_1 := (blk_cell BKm.out 1).trans rfl; have hp_1 := (blk_cell BKr.out 1).trans rfl; have hq_1 := blk_frozen BKr.out 1; have ho_2 := (blk_cell BKm.out 2).trans rfl; have hp_2 := (blk_cell BKr.out 2).trans rfl; have hq_2 := blk_frozen BKr.out 2; have ho_3 := (blk_cell BKm.out 3).trans rfl; have hp_3 := (blk_cell BKr.out 3).trans rfl; have hq_3 := blk_frozen BKr.out 3; have ho_4 := (blk_cell BKm.out 4).trans rfl; have hp_4 := (blk_cell BKr.out 4).trans rfl; have hq_4 := blk_frozen BKr.out 4; have ho_5 := (blk_cell BKm.out 5).trans rfl; have hp_5 := (blk_cell BKr.out 5).trans rfl; have hq_5 := blk_frozen BKr.out 5; have ho_6 := (blk_cell BKm.out 6).trans rfl; have hp_6 := (blk_cell BKr.out 6).trans rfl; have hq_6 := blk_frozen BKr.out 6; have ho_7 := (blk_cell BKm.out 7).trans rfl; have hp_7 := (blk_cell BKr.out 7).trans rfl; have hq_7 := blk_frozen BKr.out 7; have ho_8 := (blk_cell BKm.out 8).trans rfl; have hp_8 := (blk_cell BKr.out 8).trans rfl; have hq_8 := blk_frozen BKr.out 8; have ho_9 := (blk_cell BKm.out 9).trans rfl; have hp_9 := (blk_cell BKr.out 9).trans rfl; have hq_9 := blk_frozen BKr.out 9; have ho_10 := (blk_cell BKm.out 10).trans rfl; have hp_10 := (blk_cell BKr.out 10).trans rfl; have hq_10 := blk_frozen BKr.out 10) | (go_at_call 19; (with_reducible refine (msg_Check_nil k _ _ _ c _ AC.out).mono ?_); rintro e w8 ⟨rfl, hb⟩; replace BKr := bB_ BKr hb; replace BKm := bB_ BKm hb; replace HB := a_ (HB.out.trans (below_up hb HB.out.size)); clear hb; have ht_0 := (blk_cell BKm.out 0).trans rfl; have hu_0 := (blk_cell BKr.out 0).trans rfl; have hv_0 := blk_frozen BKr.out 0; have ht_1 := (blk_cell BKm.out 1).trans rfl; have hu_1 := (blk_cell BKr.out 1).trans rfl; have hv_1 := blk_frozen BKr.out 1; have ht_2 := (blk_cell BKm.out 2).trans rfl; have hu_2 := (blk_cell BKr.out 2).trans rfl; have hv_2 := blk_frozen BKr.out 2; have ht_3 := (blk_cell BKm.out 3).trans rfl; have hu_3 := (blk_cell BKr.out 3).trans rfl; have hv_3 := blk_frozen BKr.out 3; have ht_4 := (blk_cell BKm.out 4).trans rfl; have hu_4 := (blk_cell BKr.out 4).trans rfl; have hv_4 := blk_frozen BKr.out 4; have ht_5 := (blk_cell BKm.out 5).trans rfl; have hu_5 := (blk_cell BKr.out 5).trans rfl; have hv_5 := blk_frozen BKr.out 5; have ht_6 := (blk_cell BKm.out 6).trans rfl; have hu_6 := (blk_cell BKr.out 6).trans rfl; have hv_6 := blk_frozen BKr.out 6; have ht_7 := (blk_cell BKm.out 7).trans rfl; have hu_7 := (blk_cell BKr.out 7).trans rfl; have hv_7 := blk_frozen BKr.out 7; have ht_8 := (blk_cell BKm.out 8).trans rfl; have hu_8 := (blk_cell BKr.out 8).trans rfl; have hv_8 := blk_frozen BKr.out 8; have ht_9 := (blk_cell BKm.out 9).trans rfl; have hu_9 := (blk_cell BKr.out 9).trans rfl; have hv_9 := blk_frozen BKr.out 9; have ht_10 := (blk_cell BKm.out 10).trans rfl; have hu_10 := (blk_cell BKr.out 10).trans rfl; have hv_10 := blk_frozen BKr.out 10))
 refine bodyPost_ret (results_ct rfl _ _ gr 37 _ (0, 0) _ rfl (blk_set (blk_set (blk_set (blk_set (blk_set (blk_set (blk_set (blk_set (blk_set (blk_set (blk_set BKr.out 0 _) 1 _) 2 _) 3 _) 4 _) 5 _) 6 _) 7 _) 8 _) 9 _) 10 _) Try.underlying37 rfl (by kernel_rfl)) rfl ?_
 exact ⟨by simp only [List.setIfInBounds_toArray, List.set_cons_zero, List.set_cons_succ]; rfl, (by (iterate 11 refine Below.setCell (p := ⟨gr, _, none⟩) ?_ GEr.out _); exact HB.out)⟩
theorem msg_Decode_2 (k : Nat) (a0 p rest : ByteArray) (why : Int) (s1 : ByteArray) (b1 : Bool) (t : Int) (s2 : ByteArray) (b2 : Bool) (f : Int) (s3 : ByteArray) (b3 : Bool) (r1 r2 r3 r4 r5 : Int) (r6 : Bool) (r7 : List S67) (r8 r9 : Int) (r10 : List Int) (r11 : ByteArray) (r12 : Int) (w : World) (h0 : pack_TakeFrame.f k a0 = some (p, rest, why)) (h1 : wal_Taker_Number.f k p false = some (2, s1, b1)) (h2 : wal_Taker_Number.f k s1 b1 = some (t, s2, b2)) (h3 : wal_Taker_Number.f k s2 b2 = some (f, s3, b3)) (h : msg_Decode.fin k rest why 2 t (f == 1) s3 (b3 || decide (f > 1)) = some (r1, r2, r3, r4, r5, r6, r7, r8, r9, r10, r11, r12)) :
  Calls Try.prog 15 #[.string a0] w fun e w' => (e = .returned (.tuple #[.agg #[.int .u8 r1, .int .u64 r2, .int .u64 r3, .int .u64 r4, .int .u64 r5, .bool r6, .slice none 0 0, .int .u64 r8, .int .u64 r9, .slice none 0 0, .string r11], .int .i64 r12]) ∧ r7 = [] ∧ r10 = []) ∧ Below w.heap.size w w' := by
 have HB := a_ (Below.refl w.heap.size w)
 have A0 := a_ h0
 have A1 := a_ h1
 have A2 := a_ h2
 have A3 := a_ h3
 have H0 := a_ h
 clear h0 h1 h2 h3 h
 go_enter Try.func15, Try.ntmps15
 go_upto_region 3 with (first | ((with_reducible refine gd_ 2 ?_); refine bx_ 2 #[.int .u8 0, .int .u64 0, .int .u64 0, .int .u64 0, .int .u64 0, .bool false, .slice none 0 0, .int .u64 0, .int .u64 0, .slice none 0 0, .string (⟨#[]⟩ : ByteArray)] 37 ?_; intro gr hg w_ hbox hb; have BKr := a_ hbox; have GEr := a_ (bs_0 hg HB); replace HB := hB_ (bl_ HB) hb; clear hb hbox hg) | (go_at_call 12; (with_reducible refine (pack_TakeFrame.calls k a0 p rest why _ A0.out).mono ?_); rintro e w4 ⟨rfl, hb⟩; replace BKr := bB_ BKr hb; replace HB := hB_ (bl_1 HB GEr) hb; clear hb) | (go_at_call 27; (with_reducible refine (order_From.calls p _).mono ?_); rintro e w5 ⟨rfl, hs, hb⟩; have NRg := a_ (Nat.ne_of_lt (blk_lt BKr.out)); have GEg := a_ HB.out.size; replace BKr := bB_ BKr hb; have HI := a_ (show IsS87 w _ _ p false from ⟨91, by decide, hs, GEg.out⟩); replace HB := hB_ (bl_1 HB GEr) hb; clear hb hs))
 have NRt := a_ (Nat.ne_of_lt (blk_lt BKr.out))
 have NTg := a_ (Nat.ne_of_gt HI.out.lt)
 refine gen_world (fun w1 => w1.heap[w5.heap.size]? = some (.cells #[.pointer (some ⟨w4.heap.size, 0, none⟩)] 54 (0, 0)) ∧ w1.heap[gr]? = some (.cells #[.int .u8 0, .int .u64 0, .int .u64 0, .int .u64 0, .int .u64 0, .bool false, .slice none 0 0, .int .u64 0, .int .u64 0, .slice none 0 0, .string (⟨#[]⟩ : ByteArray)] 37 (0, 0)) ∧ IsS87 w w1 w4.heap.size p false ∧ Below w.heap.size w w1) ⟨alloc_newD _ _, blk_alloc BKr.out _, HI.out.alloc _, HB.out.alloc HB.out.size _⟩ ?_
 clear BKr HI HB
 rintro w1 ⟨BKt, BKr, HI, HB⟩
 generalize w5.heap.size = gt at *
 generalize w4.heap.size = g at *
 replace BKt := a_ BKt
 replace BKr := a_ BKr
 replace HI := a_ HI
 replace HB := a_ HB
 have hxt := (blk_cell BKt.out 0).trans rfl
 go_upto_region 4 with (first | (go_at_call 28; (with_reducible refine (msg_tmsg_2 k g p false s1 b1 t s2 b2 f s3 b3 w _ HI.out HB.out A1.out A2.out A3.out).mono ?_); rintro e w6 ⟨rfl, hi, hb, hk⟩; replace HI := a_ hi; replace BKr := a_ (keep_blk hk NRg.out BKr.out); replace BKt := a_ (keep_blk hk NTg.out BKt.out); replace HB := a_ hb; clear hi hb hk))
 have NMg := a_ (Nat.ne_of_gt HI.out.lt)
 have NRm := a_ (Nat.ne_of_lt (blk_lt BKr.out))
 refine gen_world (fun w1 => w1.heap[w6.heap.size]? = some (.cells #[.int .u8 2, .int .u64 t, .int .u64 0, .int .u64 0, .int .u64 0, .bool (f == 1), .slice none 0 0, .int .u64 0, .int .u64 0, .slice none 0 0, .string (⟨#[]⟩ : ByteArray)] 37 (0, 0)) ∧ w1.heap[gt]? = some (.cells #[.pointer (some ⟨g, 0, none⟩)] 54 (0, 0)) ∧ w1.heap[gr]? = some (.cells #[.int .u8 0, .int .u64 0, .int .u64 0, .int .u64 0, .int .u64 0, .bool false, .slice none 0 0, .int .u64 0, .int .u64 0, .slice none 0 0, .string (⟨#[]⟩ : ByteArray)] 37 (0, 0)) ∧ IsS87 w w1 g s3 (b3 || decide (f > 1)) ∧ Below w.heap.size w w1) ⟨alloc_newD _ _, blk_alloc BKt.out _, blk_alloc BKr.out _, HI.out.alloc _, HB.out.alloc HB.out.size _⟩ ?_
 clear BKr BKt HI HB hxt
 rintro w9 ⟨BKm, BKt, BKr, HI, HB⟩
 generalize w6.heap.size = gm at *
 replace BKm := a_ BKm
 replace BKt := a_ BKt
 replace BKr := a_ BKr
 replace HI := a_ HI
 replace HB := a_ HB
 have hxt := (blk_cell BKt.out 0).trans rfl
 have hxm_0 := (blk_cell BKm.out 0).trans rfl
 have hxr_0 := (blk_cell BKr.out 0).trans rfl
 have hxs_0 := blk_frozen BKr.out 0
 have hxm_1 := (blk_cell BKm.out 1).trans rfl
 have hxr_1 := (blk_cell BKr.out 1).trans rfl
 have hxs_1 := blk_frozen BKr.out 1
 have hxm_2 := (blk_cell BKm.out 2).trans rfl
 have hxr_2 := (blk_cell BKr.out 2).trans rfl
 have hxs_2 := blk_frozen BKr.out 2
 have hxm_3 := (blk_cell BKm.out 3).trans rfl
 have hxr_3 := (blk_cell BKr.out 3).trans rfl
 have hxs_3 := blk_frozen BKr.out 3
 have hxm_4 := (blk_cell BKm.out 4).trans rfl
 have hxr_4 := (blk_cell BKr.out 4).trans rfl
 have hxs_4 := blk_frozen BKr.out 4
 have hxm_5 := (blk_cell BKm.out 5).trans rfl
 have hxr_5 := (blk_cell BKr.out 5).trans rfl
 have hxs_5 := blk_frozen BKr.out 5
 have hxm_6 := (blk_cell BKm.out 6).trans rfl
 have hxr_6 := (blk_cell BKr.out 6).trans rfl
 have hxs_6 := blk_frozen BKr.out 6
 have hxm_7 := (blk_cell BKm.out 7).trans rfl
 have hxr_7 := (blk_cell BKr.out 7).trans rfl
 have hxs_7 := blk_frozen BKr.out 7
 have hxm_8 := (blk_cell BKm.out 8).trans rfl
 have hxr_8 := (blk_cell BKr.out 8).trans rfl
 have hxs_8 := blk_frozen BKr.out 8
 have hxm_9 := (blk_cell BKm.out 9).trans rfl
 have hxr_9 := (blk_cell BKr.out 9).trans rfl
 have hxs_9 := blk_frozen BKr.out 9
 have hxm_10 := (blk_cell BKm.out 10).trans rfl
 have hxr_10 := (blk_cell BKr.out 10).trans rfl
 have hxs_10 := blk_frozen BKr.out 10
 have H := H0.out
 unfold msg_Decode.fin at H
 clear H0
 by_cases c1 : why = 0
 rotate_left
 · rw [if_neg c1] at H
   have c1b := beq_eq_false_iff_ne.mpr c1
   have c1d : (why != 0) = true := bne_iff_ne.mpr c1
   clear c1
   simp only [Option.some.injEq, Prod.mk.injEq] at H
   obtain ⟨rfl, rfl, rfl, rfl, rfl, rfl, rfl, rfl, rfl, rfl, rfl, rfl⟩ := H
   go_wp2
   refine bodyPost_ret (results_ct rfl _ _ gr 37 _ (0, 0) _ rfl (blk_set (blk_set (blk_set (blk_set (blk_set (blk_set (blk_set (blk_set (blk_set (blk_set (blk_set BKr.out 0 _) 1 _) 2 _) 3 _) 4 _) 5 _) 6 _) 7 _) 8 _) 9 _) 10 _) Try.underlying37 rfl (by kernel_rfl)) rfl ?_
   exact ⟨by simp only [List.setIfInBounds_toArray, List.set_cons_zero, List.set_cons_succ]; rfl, (by (iterate 11 refine Below.setCell (p := ⟨gr, _, none⟩) ?_ GEr.out _); exact HB.out)⟩
 rw [if_pos c1] at H
 have c1b : (why == 0) = true := beq_iff_eq.mpr c1
 have c1d : (why != 0) = false := bne_eq_false_iff_eq.mpr c1
 clear c1
 by_cases c2 : rest.toList = ([] : List UInt8)
 rotate_left
 · rw [if_neg c2] at H
   have c2b : (rest.toList == ([] : List UInt8)) = false := beq_eq_false_iff_ne.mpr c2
   have c2d : (rest.toList != ([] : List UInt8)) = true := bne_iff_ne.mpr c2
   clear c2
   simp only [Option.some.injEq, Prod.mk.injEq] at H
   obtain ⟨rfl, rfl, rfl, rfl, rfl, rfl, rfl, rfl, rfl, rfl, rfl, rfl⟩ := H
   go_wp2
   refine bodyPost_ret (results_ct rfl _ _ gr 37 _ (0, 0) _ rfl (blk_set (blk_set (blk_set (blk_set (blk_set (blk_set (blk_set (blk_set (blk_set (blk_set (blk_set BKr.out 0 _) 1 _) 2 _) 3 _) 4 _) 5 _) 6 _) 7 _) 8 _) 9 _) 10 _) Try.underlying37 rfl (by kernel_rfl)) rfl ?_
   exact ⟨by simp only [List.setIfInBounds_toArray, List.set_cons_zero, List.set_cons_succ]; rfl, (by (iterate 11 refine Below.setCell (p := ⟨gr, _, none⟩) ?_ GEr.out _); exact HB.out)⟩
 rw [if_pos c2] at H
 have c2b : (rest.toList == ([] : List UInt8)) = true := beq_iff_eq.mpr c2
 have c2d : (rest.toList != ([] : List UInt8)) = false := bne_eq_false_iff_eq.mpr c2
 clear c2
 obtain ⟨⟨v1, v2, v3⟩, AV0, H⟩ := Option.bind_eq_some_iff.mp H
 have AV := a_ AV0
 clear AV0
 dsimp only at H
 cases v1
 · rw [if_neg (by decide)] at H
   simp only [Option.some.injEq, Prod.mk.injEq] at H
   obtain ⟨rfl, rfl, rfl, rfl, rfl, rfl, rfl, rfl, rfl, rfl, rfl, rfl⟩ := H
   go_wp2_with (first | (go_at_call 29; (with_reducible refine (order_Taker_Over.calls g s3 (b3 || decide (f > 1)) _ v2 v3 w _ HI.out HB.out AV.out).mono ?_); rintro e w7 ⟨rfl, hi, hb, hk⟩; replace HI := a_ hi; replace BKr := a_ (keep_blk hk NRg.out BKr.out); replace BKm := a_ (keep_blk hk NMg.out BKm.out); replace HB := a_ hb; clear hi hb hk; have ho_0 := (blk_cell BKm.out 0).trans rfl; have hp_0 := (blk_cell BKr.out 0).trans rfl; have hq_0 := blk_frozen BKr.out 0; have ho_1 := (blk_cell BKm.out 1).trans rfl; have hp_1 := (blk_cell BKr.out 1).trans rfl; have hq_1 := blk_frozen BKr.out 1; have ho_2 := (blk_cell BKm.out 2).trans rfl; have hp_2 := (blk_cell BKr.out 2).trans rfl; have hq_2 := blk_frozen BKr.out 2; have ho_3 := (blk_cell BKm.out 3).trans rfl; have hp_3 := (blk_cell BKr.out 3).trans rfl; have hq_3 := blk_frozen BKr.out 3; have ho_4 := (blk_cell BKm.out 4).trans rfl; have hp_4 := (blk_cell BKr.out 4).trans rfl; have hq_4 := blk_frozen BKr.out 4; have ho_5 := (blk_cell BKm.out 5).trans rfl; have hp_5 := (blk_cell BKr.out 5).trans rfl; have hq_5 := blk_frozen BKr.out 5; have ho_6 := (blk_cell BKm.out 6).trans rfl; have hp_6 := (blk_cell BKr.out 6).trans rfl; have hq_6 := blk_frozen BKr.out 6; have ho_7 := (blk_cell BKm.out 7).trans rfl; have hp_7 := (blk_cell BKr.out 7).trans rfl; have hq_7 := blk_frozen BKr.out 7; have ho_8 := (blk_cell BKm.out 8).trans rfl; have hp_8 := (blk_cell BKr.out 8).trans rfl; have hq_8 := blk_frozen BKr.out 8; have ho_9 := (blk_cell BKm.out 9).trans rfl; have hp_9 := (blk_cell BKr.out 9).trans rfl; have hq_9 := blk_frozen BKr.out 9; have ho_10 := (blk_cell BKm.out 10).trans rfl; have hp_10 := (blk_cell BKr.out 10).trans rfl; have hq_10 := blk_frozen BKr.out 10))
   refine bodyPost_ret (results_ct rfl _ _ gr 37 _ (0, 0) _ rfl (blk_set (blk_set (blk_set (blk_set (blk_set (blk_set (blk_set (blk_set (blk_set (blk_set (blk_set BKr.out 0 _) 1 _) 2 _) 3 _) 4 _) 5 _) 6 _) 7 _) 8 _) 9 _) 10 _) Try.underlying37 rfl (by kernel_rfl)) rfl ?_
   exact ⟨by simp only [List.setIfInBounds_toArray, List.set_cons_zero, List.set_cons_succ]; rfl, (by (iterate 11 refine Below.setCell (p := ⟨gr, _, none⟩) ?_ GEr.out _); exact HB.out)⟩
 rw [if_pos rfl] at H
 obtain ⟨c, AC0, H⟩ := Option.bind_eq_some_iff.mp H
 have AC := a_ AC0
 clear AC0
 by_cases c3 : c = 0
 rotate_left
 · rw [if_neg c3] at H
   have c3b : (c == 0) = false := beq_eq_false_iff_ne.mpr c3
   have c3d : (c != 0) = true := bne_iff_ne.mpr c3
   clear c3
   simp only [Option.some.injEq, Prod.mk.injEq] at H
   obtain ⟨rfl, rfl, rfl, rfl, rfl, rfl, rfl, rfl, rfl, rfl, rfl, rfl⟩ := H
   go_wp2_with (first | (go_at_call 29; (with_reducible refine (order_Taker_Over.calls g s3 (b3 || decide (f > 1)) _ v2 v3 w _ HI.out HB.out AV.out).mono ?_); rintro e w7 ⟨rfl, hi, hb, hk⟩; replace HI := a_ hi; replace BKr := a_ (keep_blk hk NRg.out BKr.out); replace BKm := a_ (keep_blk hk NMg.out BKm.out); replace HB := a_ hb; clear hi hb hk; have ho_0 := (blk_cell BKm.out 0).trans rfl; have hp_0 := (blk_cell BKr.out 0).trans rfl; have hq_0 := blk_frozen BKr.out 0; have ho_1 := (blk_cell BKm.out 1).trans rfl; have hp_1 := (blk_cell BKr.out 1).trans rfl; have hq_1 := blk_frozen BKr.out 1; have ho_2 := (blk_cell BKm.out 2).trans rfl; have hp_2 := (blk_cell BKr.out 2).trans rfl; have hq_2 := blk_frozen BKr.out 2; have ho_3 := (blk_cell BKm.out 3).trans rfl; have hp_3 := (blk_cell BKr.out 3).trans rfl; have hq_3 := blk_frozen BKr.out 3; have ho_4 := (blk_cell BKm.out 4).trans rfl; have hp_4 := (blk_cell BKr.out 4).trans rfl; have hq_4 := blk_frozen BKr.out 4; have ho_5 := (blk_cell BKm.out 5).trans rfl; have hp_5 := (blk_cell BKr.out 5).trans rfl; have hq_5 := blk_frozen BKr.out 5; have ho_6 := (blk_cell BKm.out 6).trans rfl; have hp_6 := (blk_cell BKr.out 6).trans rfl; have hq_6 := blk_frozen BKr.out 6; have ho_7 := (blk_cell BKm.out 7).trans rfl; have hp_7 := (blk_cell BKr.out 7).trans rfl; have hq_7 := blk_frozen BKr.out 7; have ho_8 := (blk_cell BKm.out 8).trans rfl; have hp_8 := (blk_cell BKr.out 8).trans rfl; have hq_8 := blk_frozen BKr.out 8; have ho_9 := (blk_cell BKm.out 9).trans rfl; have hp_9 := (blk_cell BKr.out 9).trans rfl; have hq_9 := blk_frozen BKr.out 9; have ho_10 := (blk_cell BKm.out 10).trans rfl; have hp_10 := (blk_cell BKr.out 10).trans rfl; have hq_10 := blk_frozen BKr.out 10) | (go_at_call 19; (with_reducible refine (msg_Check_nil k _ _ _ c _ AC.out).mono ?_); rintro e w8 ⟨rfl, hb⟩; replace BKr := bB_ BKr hb; replace BKm := bB_ BKm hb; replace HB := a_ (HB.out.trans (below_up hb HB.out.size)); clear hb; have ht_0 := (blk_cell BKm.out 0).trans rfl; have hu_0 := (blk_cell BKr.out 0).trans rfl; have hv_0 := blk_frozen BKr.out 0; have ht_1 := (blk_cell BKm.out 1).trans rfl; have hu_1 := (blk_cell BKr.out 1).trans rfl; have hv_1 := blk_frozen BKr.out 1; have ht_2 := (blk_cell BKm.out 2).trans rfl; have hu_2 := (blk_cell BKr.out 2).trans rfl; have hv_2 := blk_frozen BKr.out 2; have ht_3 := (blk_cell BKm.out 3).trans rfl; have hu_3 := (blk_cell BKr.out 3).trans rfl; have hv_3 := blk_frozen BKr.out 3; have ht_4 := (blk_cell BKm.out 4).trans rfl; have hu_4 := (blk_cell BKr.out 4).trans rfl; have hv_4 := blk_frozen BKr.out 4; have ht_5 := (blk_cell BKm.out 5).trans rfl; have hu_5 := (blk_cell BKr.out 5).trans rfl; have hv_5 := blk_frozen BKr.out 5; have ht_6 := (blk_cell BKm.out 6).trans rfl; have hu_6 := (blk_cell BKr.out 6).trans rfl; have hv_6 := blk_frozen BKr.out 6; have ht_7 := (blk_cell BKm.out 7).trans rfl; have hu_7 := (blk_cell BKr.out 7).trans rfl; have hv_7 := blk_frozen BKr.out 7; have ht_8 := (blk_cell BKm.out 8).trans rfl; have hu_8 := (blk_cell BKr.out 8).trans rfl; have hv_8 := blk_frozen BKr.out 8; have ht_9 := (blk_cell BKm.out 9).trans rfl; have hu_9 := (blk_cell BKr.out 9).trans rfl; have hv_9 := blk_frozen BKr.out 9; have ht_10 := (blk_cell BKm.out 10).trans rfl; have hu_10 := (blk_cell BKr.out 10).trans rfl; have hv_10 := blk_frozen BKr.out 10))
   refine bodyPost_ret (results_ct rfl _ _ gr 37 _ (0, 0) _ rfl (blk_set (blk_set (blk_set (blk_set (blk_set (blk_set (blk_set (blk_set (blk_set (blk_set (blk_set BKr.out 0 _) 1 _) 2 _) 3 _) 4 _) 5 _) 6 _) 7 _) 8 _) 9 _) 10 _) Try.underlying37 rfl (by kernel_rfl)) rfl ?_
   exact ⟨by simp only [List.setIfInBounds_toArray, List.set_cons_zero, List.set_cons_succ]; rfl, (by (iterate 11 refine Below.setCell (p := ⟨gr, _, none⟩) ?_ GEr.out _); exact HB.out)⟩
 rw [if_pos c3] at H
 have c3b : (c == 0) = true := beq_iff_eq.mpr c3
 have c3d : (c != 0) = false := bne_eq_false_iff_eq.mpr c3
 clear c3
 simp only [Option.some.injEq, Prod.mk.injEq] at H
 obtain ⟨rfl, rfl, rfl, rfl, rfl, rfl, rfl, rfl, rfl, rfl, rfl, rfl⟩ := H
 go_wp2_with (first | (go_at_call 29; (with_reducible refine (order_Taker_Over.calls g s3 (b3 || decide (f > 1)) _ v2 v3 w _ HI.out HB.out AV.out).mono ?_); rintro e w7 ⟨rfl, hi, hb, hk⟩; replace HI := a_ hi; replace BKr := a_ (keep_blk hk NRg.out BKr.out); replace BKm := a_ (keep_blk hk NMg.out BKm.out); replace HB := a_ hb; clear hi hb hk; have ho_0 := (blk_cell BKm.out 0).trans rfl; have hp_0 := (blk_cell BKr.out 0).trans rfl; have hq_0 := blk_frozen BKr.out 0; have ho_1 := (blk_cell BKm.out 1).trans rfl; have hp_1 := (blk_cell BKr.out 1).trans rfl; have hq_1 := blk_frozen BKr.out 1; have ho_2 := (blk_cell BKm.out 2).trans rfl; have hp_2 := (blk_cell BKr.out 2).trans rfl; have hq_2 := blk_frozen BKr.out 2; have ho_3 := (blk_cell BKm.out 3).trans rfl; have hp_3 := (blk_cell BKr.out 3).trans rfl; have hq_3 := blk_frozen BKr.out 3; have ho_4 := (blk_cell BKm.out 4).trans rfl; have hp_4 := (blk_cell BKr.out 4).trans rfl; have hq_4 := blk_frozen BKr.out 4; have ho_5 := (blk_cell BKm.out 5).trans rfl; have hp_5 := (blk_cell BKr.out 5).trans rfl; have hq_5 := blk_frozen BKr.out 5; have ho_6 := (blk_cell BKm.out 6).trans rfl; have hp_6 := (blk_cell BKr.out 6).trans rfl; have hq_6 := blk_frozen BKr.out 6; have ho_7 := (blk_cell BKm.out 7).trans rfl; have hp_7 := (blk_cell BKr.out 7).trans rfl; have hq_7 := blk_frozen BKr.out 7; have ho_8 := (blk_cell BKm.out 8).trans rfl; have hp_8 := (blk_cell BKr.out 8).trans rfl; have hq_8 := blk_frozen BKr.out 8; have ho_9 := (blk_cell BKm.out 9).trans rfl; have hp_9 := (blk_cell BKr.out 9).trans rfl; have hq_9 := blk_frozen BKr.out 9; have ho_10 := (blk_cell BKm.out 10).trans rfl; have hp_10 := (blk_cell BKr.out 10).trans rfl; have hq_10 := blk_frozen BKr.out 10) | (go_at_call 19; (with_reducible refine (msg_Check_nil k _ _ _ c _ AC.out).mono ?_); rintro e w8 ⟨rfl, hb⟩; replace BKr := bB_ BKr hb; replace BKm := bB_ BKm hb; replace HB := a_ (HB.out.trans (below_up hb HB.out.size)); clear hb; have ht_0 := (blk_cell BKm.out 0).trans rfl; have hu_0 := (blk_cell BKr.out 0).trans rfl; have hv_0 := blk_frozen BKr.out 0; have ht_1 := (blk_cell BKm.out 1).trans rfl; have hu_1 := (blk_cell BKr.out 1).trans rfl; have hv_1 := blk_frozen BKr.out 1; have ht_2 := (blk_cell BKm.out 2).trans rfl; have hu_2 := (blk_cell BKr.out 2).trans rfl; have hv_2 := blk_frozen BKr.out 2; have ht_3 := (blk_cell BKm.out 3).trans rfl; have hu_3 := (blk_cell BKr.out 3).trans rfl; have hv_3 := blk_frozen BKr.out 3; have ht_4 := (blk_cell BKm.out 4).trans rfl; have hu_4 := (blk_cell BKr.out 4).trans rfl; have hv_4 := blk_frozen BKr.out 4; have ht_5 := (blk_cell BKm.out 5).trans rfl; have hu_5 := (blk_cell BKr.out 5).trans rfl; have hv_5 := blk_frozen BKr.out 5; have ht_6 := (blk_cell BKm.out 6).trans rfl; have hu_6 := (blk_cell BKr.out 6).trans rfl; have hv_6 := blk_frozen BKr.out 6; have ht_7 := (blk_cell BKm.out 7).trans rfl; have hu_7 := (blk_cell BKr.out 7).trans rfl; have hv_7 := blk_frozen BKr.out 7; have ht_8 := (blk_cell BKm.out 8).trans rfl; have hu_8 := (blk_cell BKr.out 8).trans rfl; have hv_8 := blk_frozen BKr.out 8; have ht_9 := (blk_cell BKm.out 9).trans rfl; have hu_9 := (blk_cell BKr.out 9).trans rfl; have hv_9 := blk_frozen BKr.out 9; have ht_10 := (blk_cell BKm.out 10).trans rfl; have hu_10 := (blk_cell BKr.out 10).trans rfl; have hv_10 := blk_frozen BKr.out 10))
 refine bodyPost_ret (results_ct rfl _ _ gr 37 _ (0, 0) _ rfl (blk_set (blk_set (blk_set (blk_set (blk_set (blk_set (blk_set (blk_set (blk_set (blk_set (blk_set BKr.out 0 _) 1 _) 2 _) 3 _) 4 _) 5 _) 6 _) 7 _) 8 _) 9 _) 10 _) Try.underlying37 rfl (by kernel_rfl)) rfl ?_
 exact ⟨by simp only [List.setIfInBounds_toArray, List.set_cons_zero, List.set_cons_succ]; rfl, (by (iterate 11 refine Below.setCell (p := ⟨gr, _, none⟩) ?_ GEr.out _); exact HB.out)⟩
theorem msg_Decode.calls (k : Nat) (a0 : ByteArray) (r1 : Int) (r2 : Int) (r3 : Int) (r4 : Int) (r5 : Int) (r6 : Bool) (r7 : List (S67)) (r8 : Int) (r9 : Int) (r10 : List Int) (r11 : ByteArray) (r12 : Int) (w : World) (h : msg_Decode.f k a0 = some (r1, r2, r3, r4, r5, r6, r7, r8, r9, r10, r11, r12)) :
  Calls Try.prog 15 #[.string a0] w fun e w' => ∃ v6_ v9_ : Value, e = .returned (.tuple #[.agg #[.int .u8 r1, .int .u64 r2, .int .u64 r3, .int .u64 r4, .int .u64 r5, .bool r6, v6_, .int .u64 r8, .int .u64 r9, v9_, .string r11], .int .i64 r12]) ∧ Kd.S k67 67 w' w.heap.size (fun k_ => some k_ ≠ (v9_ : Value).ownBlock) v6_ r7 ∧ Kd.R (Kd.int .i64) 3 w' w.heap.size (fun _ => True) v9_ r10 ∧ Below w.heap.size w w' := by
 obtain ⟨⟨p, rest, why⟩, h0, H⟩ := Option.bind_eq_some_iff.mp h
 obtain ⟨⟨n, s1, b1⟩, h1, H⟩ := Option.bind_eq_some_iff.mp H
 obtain ⟨⟨t, s2, b2⟩, h2, H⟩ := Option.bind_eq_some_iff.mp H
 dsimp only at h1 h2 H
 by_cases c2 : n = 2
 ·subst c2
  rw [if_pos rfl] at H
  obtain ⟨⟨f, s3, b3⟩, h3, H⟩ := Option.bind_eq_some_iff.mp H
  refine (msg_Decode_2 k a0 p rest why s1 b1 t s2 b2 f s3 b3 r1 r2 r3 r4 r5 r6 r7 r8 r9 r10 r11 r12 w h0 h1 h2 h3 H).mono ?_
  rintro e w' ⟨⟨rfl, rfl, rfl⟩, hb⟩
  exact ⟨_, _, rfl, (by first | exact Kd.S_nil _ _ _ _ _ | exact Kd.R_nil _ _ _ _ _), (by exact Kd.R_nil _ _ _ _ _), hb⟩
 rw [if_neg c2] at H
 by_cases c0 : n = 0
 rotate_left
 ·rw [if_neg c0] at H
  cases H


 subst c0
 rw [if_pos rfl] at H
 refine (msg_Decode_0 k a0 p rest why s1 b1 t s2 b2 r1 r2 r3 r4 r5 r6 r7 r8 r9 r10 r11 r12 w h0 h1 h2 H).mono ?_
 rintro e w' ⟨⟨rfl, rfl, rfl⟩, hb⟩
 exact ⟨_, _, rfl, (by first | exact Kd.S_nil _ _ _ _ _ | exact Kd.R_nil _ _ _ _ _), (by exact Kd.R_nil _ _ _ _ _), hb⟩end Go.Proofs.Ytcdibodjkdoknaa.PM
