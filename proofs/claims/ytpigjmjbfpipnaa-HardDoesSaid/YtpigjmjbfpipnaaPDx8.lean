-- By a program of this session.
import Derived.Test.YtpigjmjbfpipnaaPDx0
import Derived.Test.YtpigjmjbfpipnaaPDx7
namespace Go.Proofs.Ytpigjmjbfpipnaa.PD
open Go.RowKit YtpigjmjbfpipnaaW.PrintWords YtpigjmjbfpipnaaW.PrintLast YtpigjmjbfpipnaaW.PrintMore Sh Ytpigjmjbfpipnaa.Op
attribute [local go_sem] max2_int min2_int max_two min_two max_three min_three max_four min_four
set_option linter.unusedVariables false
set_option maxHeartbeats 80000000
set_option maxRecDepth 100000
set_option linter.unusedSimpArgs false

mutual
def gafferref01_TakeNumber.j0 : Nat → ByteArray → Int → Bool → Option (Int × ByteArray × Int)
 | 0, _, _, _ => none
 | k + 1, x0, x5, x26 => if x26 = true then (some (0, (⟨#[]⟩ : ByteArray), 4)) else (if (x0.size : Int) < (wrap64 (x5 + 1)) then (some (0, (⟨#[]⟩ : ByteArray), 3)) else (gafferref01_TakeNumber.l0 k x0 x5 0 1))
def gafferref01_TakeNumber.l0 : Nat → ByteArray → Int → Int → Int → Option (Int × ByteArray × Int)
 | 0, _, _, _, _ => none
 | k + 1, x0, x5, x6, x7 => if x7 ≤ x5 then (if 0 ≤ x7 then (if x7 < (x0.size : Int) then (gafferref01_TakeNumber.l0 k x0 x5 (IntKind.u64.wrap ((IntKind.u64.wrap (256 * x6)) + (IntKind.u64.wrap (bt x0 x7)))) (wrap64 (x7 + 1))) else (none)) else (none)) else (if 0 ≤ (wrap64 (x5 + 1)) then (if (wrap64 (x5 + 1)) ≤ (x0.size : Int) then (some (x6, x0.extract ((wrap64 (x5 + 1)) : Int).toNat x0.size, 0)) else (none)) else (none))
end
def gafferref01_TakeNumber.f (k : Nat) (a0 : ByteArray) : Option (Int × ByteArray × Int) := if a0.toList = ([] : List UInt8) then (some (0, (⟨#[]⟩ : ByteArray), 3)) else (if 0 < (a0.size : Int) then (if (wrap64 (bt a0 0)) > 8 then (some (0, (⟨#[]⟩ : ByteArray), 4)) else (if (wrap64 (bt a0 0)) > 0 then (if (a0.size : Int) > 1 then (if 1 < (a0.size : Int) then (gafferref01_TakeNumber.j0 k a0 (wrap64 (bt a0 0)) ((bt a0 1) == 0)) else (none)) else (gafferref01_TakeNumber.j0 k a0 (wrap64 (bt a0 0)) false)) else (gafferref01_TakeNumber.j0 k a0 (wrap64 (bt a0 0)) false))) else (none))
theorem gafferref01_TakeNumber.mono_l : ∀ k, (∀ y0 y1 y2, LeO (gafferref01_TakeNumber.j0 k y0 y1 y2) (gafferref01_TakeNumber.j0 (k + 1) y0 y1 y2)) ∧ (∀ y0 y1 y2 y3, LeO (gafferref01_TakeNumber.l0 k y0 y1 y2 y3) (gafferref01_TakeNumber.l0 (k + 1) y0 y1 y2 y3))
 | 0 => ⟨fun _ _ _ r h => by simp [gafferref01_TakeNumber.j0] at h, fun _ _ _ _ r h => by simp [gafferref01_TakeNumber.l0] at h⟩
 | k + 1 => by
  obtain ⟨ih0, ih1⟩ := gafferref01_TakeNumber.mono_l k
  refine ⟨?_, ?_⟩
  ·intro y0 y1 y2
   unfold gafferref01_TakeNumber.j0
   repeat' with_reducible first | apply ih0 | apply ih1 | apply LeO.refl | apply LeO.none | apply LeO.ite | refine LeO.bind ?_ (fun _ => ?_)
  ·intro y0 y1 y2 y3
   unfold gafferref01_TakeNumber.l0
   repeat' with_reducible first | apply ih0 | apply ih1 | apply LeO.refl | apply LeO.none | apply LeO.ite | refine LeO.bind ?_ (fun _ => ?_)
theorem gafferref01_TakeNumber.mono : ∀ a0 k, LeO (gafferref01_TakeNumber.f k a0) (gafferref01_TakeNumber.f (k + 1) a0) := by
 intro a0 k
 obtain ⟨ih0, ih1⟩ := gafferref01_TakeNumber.mono_l k
 unfold gafferref01_TakeNumber.f
 repeat' with_reducible first | apply ih0 | apply ih1 | apply LeO.refl | apply LeO.none | apply LeO.ite | refine LeO.bind ?_ (fun _ => ?_)
theorem gafferref01_TakeNumber.calls (k : Nat) (a0 : ByteArray) (r1 : Int) (r2 : ByteArray) (r3 : Int) (w : World) (h : gafferref01_TakeNumber.f k a0 = some (r1, r2, r3)) :
  Calls Try.prog 43 #[.string a0] w fun e w' => e = .returned (.tuple #[.int .u64 r1, .string r2, .int .i64 r3]) ∧ Drawn0 w w' := by
 have H : (if a0.toList = ([] : List UInt8) then (some (0, (⟨#[]⟩ : ByteArray), 3)) else (if 0 < (a0.size : Int) then (if (wrap64 (bt a0 0)) > 8 then (some (0, (⟨#[]⟩ : ByteArray), 4)) else (if (wrap64 (bt a0 0)) > 0 then (if (a0.size : Int) > 1 then (if 1 < (a0.size : Int) then (gafferref01_TakeNumber.j0 k a0 (wrap64 (bt a0 0)) ((bt a0 1) == 0)) else (none)) else (gafferref01_TakeNumber.j0 k a0 (wrap64 (bt a0 0)) false)) else (gafferref01_TakeNumber.j0 k a0 (wrap64 (bt a0 0)) false))) else (none))) = some (r1, r2, r3) := h
 clear h
 by_cases c2 : a0.toList = ([] : List UInt8)
 ·rw [if_pos c2] at H
  have c2b0 : (a0.toList == ([] : List UInt8)) = true := beq_iff_eq.mpr c2
  have c2b1 : (a0.toList != ([] : List UInt8)) = false := bne_eq_false_iff_eq.mpr c2
  clear c2
  simp only [Option.some.injEq, Prod.mk.injEq] at H
  obtain ⟨rfl, rfl, rfl⟩ := H
  go_enter Try.func43, Try.ntmps43
  go_wp2
  repeat (go_quiet (fail); try go_wp2)
  go_ret3
  exact ⟨fz_, dr_⟩
 rw [if_neg c2] at H
 have c2b0 : (a0.toList == ([] : List UInt8)) = false := beq_eq_false_iff_ne.mpr c2
 have c2b1 : (a0.toList != ([] : List UInt8)) = true := bne_iff_ne.mpr c2
 by_cases c3 : 0 < (a0.size : Int)
 rotate_left
 ·rw [if_neg c3] at H
  exact absurd H (by simp)


 rw [if_pos c3] at H
 have c3b0 : decide (0 < (a0.size : Int)) = true := decide_eq_true c3
 have c3b1 : decide (0 < a0.size) = true := decide_eq_true (by omega)
 clear c3
 by_cases c5 : (wrap64 (bt a0 0)) > 8
 ·rw [if_pos c5] at H
  have c5b0 : decide (8 < (wrap64 (bt a0 0))) = true := decide_eq_true c5
  clear c5
  simp only [Option.some.injEq, Prod.mk.injEq] at H
  obtain ⟨rfl, rfl, rfl⟩ := H
  have p4 : 0 ≤ (0 : Int) := (by omega)
  have q4 : 0 < a0.size := (by have : (0 : Int) < (a0.size : Int) := od_; omega)
  have hx4 : ∀ h : 0 < a0.size, ((a0[0]'h).toNat : Int) = bt a0 0 := bt_at a0 0
  clear p4
  have qi4 : (0 < (a0.size : Int)) = True := eq_true od_
  replace q4 := eq_true q4
  go_enter Try.func43, Try.ntmps43
  go_wp2
  repeat (go_quiet (fail); try go_wp2)
  go_ret3
  exact ⟨fz_, dr_⟩
 rw [if_neg c5] at H
 have c5b0 : decide (8 < (wrap64 (bt a0 0))) = false := decide_eq_false c5
 clear c5
 have HC6 := a_ H
 clear H
 have p4 : 0 ≤ (0 : Int) := (by omega)
 have q4 : 0 < a0.size := (by have : (0 : Int) < (a0.size : Int) := od_; omega)
 have hx4 : ∀ h : 0 < a0.size, ((a0[0]'h).toNat : Int) = bt a0 0 := bt_at a0 0
 clear p4
 have qi4 : (0 < (a0.size : Int)) = True := eq_true od_
 replace q4 := eq_true q4
 go_enter Try.func43, Try.ntmps43
 go_upto_region 6 with (fail)
 repeat (go_quiet (fail); go_upto_region 6 with (fail))
 go_cut [26] (fun v26 wc => ∃ (kq : Nat) (x26_5 : Bool), v26 = .bool x26_5 ∧ Aside0 (gafferref01_TakeNumber.j0 kq a0 (wrap64 (bt a0 0)) x26_5 = some (r1, r2, r3)) ∧ Aside0 (kq ≤ k) ∧ Drawn0 w wc)
 case first =>
  have H := HC6.out
  clear HC6
  by_cases c7 : (wrap64 (bt a0 0)) > 0
  rotate_left
  ·rw [if_neg c7] at H
   have c7b0 : decide (0 < (wrap64 (bt a0 0))) = false := decide_eq_false c7
   clear c7
   (first | rw [c7b0] | (simp only [i64_w, i32_w]; rw [c7b0]) | skip)
   have H' := a_ H
   clear H
   go_wp2
   repeat (go_quiet (fail); try go_wp2)
   go_meet
   case rel => exact ⟨_, (false), fz_, H', ⟨by first | omega | exact Nat.le_refl _⟩, dr_⟩
  rw [if_pos c7] at H
  have c7b0 : decide (0 < (wrap64 (bt a0 0))) = true := decide_eq_true c7
  clear c7
  (first | rw [c7b0] | (simp only [i64_w, i32_w]; rw [c7b0]) | skip)
  by_cases c8 : (a0.size : Int) > 1
  rotate_left
  ·rw [if_neg c8] at H
   have c8b0 : decide (1 < (a0.size : Int)) = false := decide_eq_false c8
   have c8b1 : decide (1 < a0.size) = false := decide_eq_false (by omega)
   clear c8
   have H' := a_ H
   clear H
   go_wp2
   repeat (go_quiet (fail); try go_wp2)
   go_meet
   case rel => exact ⟨_, (false), fz_, H', ⟨by first | omega | exact Nat.le_refl _⟩, dr_⟩
  rw [if_pos c8] at H
  have c8b0 : decide (1 < (a0.size : Int)) = true := decide_eq_true c8
  have c8b1 : decide (1 < a0.size) = true := decide_eq_true (by omega)
  clear c8
  by_cases c9 : 1 < (a0.size : Int)
  rotate_left
  ·rw [if_neg c9] at H
   exact absurd H (by simp)
  rw [if_pos c9] at H
  have c9b0 : decide (1 < (a0.size : Int)) = true := decide_eq_true c9
  have c9b1 : decide (1 < a0.size) = true := decide_eq_true (by omega)
  clear c9
  have H' := a_ H
  clear H
  have p10 : 0 ≤ (1 : Int) := (by omega)
  have q10 : 1 < a0.size := (by have : (1 : Int) < (a0.size : Int) := od_; omega)
  have hx10 : ∀ h : 1 < a0.size, ((a0[1]'h).toNat : Int) = bt a0 1 := bt_at a0 1
  clear p10
  have qi10 : (1 < (a0.size : Int)) = True := eq_true od_
  replace q10 := eq_true q10
  go_wp2
  repeat (go_quiet (fail); try go_wp2)
  go_meet
  case rel => exact ⟨_, (((bt a0 1) == 0)), fz_, H', ⟨by first | omega | exact Nat.le_refl _⟩, dr_⟩
 case rest =>
  clear HC6
  try clear p1
  try clear q1
  try clear hx1
  try clear qi1
  try clear c2
  try clear c2b0
  try clear c2b1
  try clear p2
  try clear c3
  try clear c3b0
  try clear c3b1
  try clear c4
  try clear p4
  try clear q4
  try clear hx4
  try clear qi4
  try clear c5
  try clear c5b0
  try clear p6
  try clear c7
  try clear c7b0
  try clear c8
  try clear c8b0
  try clear c8b1
  try clear c9
  try clear c9b0
  try clear c9b1
  try clear p10
  try clear q10
  try clear hx10
  try clear qi10
  try clear p10
  try clear p4
  try clear q10
  try clear q4
  obtain ⟨kq, x26_5, rfl, HA, HJ5, ⟨mc5, rfl⟩⟩ := hcut
  cases kq with
  | zero => exact absurd HA.out (by simp [gafferref01_TakeNumber.j0])
  | succ kj5 =>
   have H := HA.out
   clear HA
   simp only [gafferref01_TakeNumber.j0] at H
   by_cases c11 : x26_5 = true
   ·subst c11
    have H1 : (some (0, (⟨#[]⟩ : ByteArray), 4)) = some (r1, r2, r3) := by rw [if_pos rfl] at H; exact H
    clear H
    have H := H1
    clear H1
    simp only [Option.some.injEq, Prod.mk.injEq] at H
    obtain ⟨rfl, rfl, rfl⟩ := H
    go_wp2
    repeat (go_quiet (fail); try go_wp2)
    go_ret3
    exact ⟨fz_, dr_⟩
   replace c11 := Bool.eq_false_iff.mpr c11
   subst c11
   have H1 : (if (a0.size : Int) < (wrap64 ((wrap64 (bt a0 0)) + 1)) then (some (0, (⟨#[]⟩ : ByteArray), 3)) else (gafferref01_TakeNumber.l0 kj5 a0 (wrap64 (bt a0 0)) 0 1)) = some (r1, r2, r3) := by rw [if_neg (show ¬ (false = true) by decide)] at H; exact H
   clear H
   have H := H1
   clear H1
   by_cases c12 : (a0.size : Int) < (wrap64 ((wrap64 (bt a0 0)) + 1))
   ·rw [if_pos c12] at H
    have c12b0 : decide ((a0.size : Int) < (wrap64 ((wrap64 (bt a0 0)) + 1))) = true := decide_eq_true c12
    clear c12
    simp only [Option.some.injEq, Prod.mk.injEq] at H
    obtain ⟨rfl, rfl, rfl⟩ := H
    go_wp2
    repeat (go_quiet (fail); try go_wp2)
    go_ret3
    exact ⟨fz_, dr_⟩
   rw [if_neg c12] at H
   have c12b0 : decide ((a0.size : Int) < (wrap64 ((wrap64 (bt a0 0)) + 1))) = false := decide_eq_false c12
   clear c12
   have H' := a_ H
   clear H
   go_wp2
   repeat (go_quiet (fail); try go_wp2)
   go_loopg [6, 7] kj5 (fun kq v6 v7 w' => ∃ (x6_2 : Int) (x7_2 : Int), v6 = .int .u64 x6_2 ∧ v7 = .int .i64 x7_2 ∧ Aside0 (gafferref01_TakeNumber.l0 kq a0 (wrap64 (bt a0 0)) x6_2 x7_2 = some (r1, r2, r3)) ∧ Aside0 (kq ≤ kj5) ∧ Drawn0 w w')
   case atStart => exact ⟨(0), (1), fz_, fz_, H', ⟨Nat.le_refl _⟩, dr_⟩
   case round =>
    clear H'
    try clear c1
    try clear p1
    try clear q1
    try clear hx1
    try clear qi1
    try clear c2
    try clear c2b0
    try clear c2b1
    try clear p2
    try clear c3
    try clear c3b0
    try clear c3b1
    try clear c4
    try clear p4
    try clear q4
    try clear hx4
    try clear qi4
    try clear c5
    try clear c5b0
    try clear p6
    try clear c7
    try clear c7b0
    try clear c8
    try clear c8b0
    try clear c8b1
    try clear c9
    try clear c9b0
    try clear c9b1
    try clear p10
    try clear q10
    try clear hx10
    try clear qi10
    try clear c11
    try clear c12
    try clear c12b0
    try clear p1
    try clear p10
    try clear p2
    try clear p4
    try clear p6
    try clear q1
    try clear q10
    try clear q4
    obtain ⟨x6_2, x7_2, rfl, rfl, HA, HK2, ⟨m2, rfl⟩⟩ := hrel
    cases gk with
    | zero => exact absurd HA.out (by simp [gafferref01_TakeNumber.l0])
    | succ k2 =>
     have H := HA.out
     clear HA
     simp only [gafferref01_TakeNumber.l0] at H
     by_cases c13 : x7_2 ≤ (wrap64 (bt a0 0))
     ·rw [if_pos c13] at H
      have c13b0 : decide (x7_2 ≤ (wrap64 (bt a0 0))) = true := decide_eq_true c13
      clear c13
      by_cases c14 : 0 ≤ x7_2
      rotate_left
      ·rw [if_neg c14] at H
       exact absurd H (by simp)
      rw [if_pos c14] at H
      have c14b0 : decide (0 ≤ x7_2) = true := decide_eq_true c14
      clear c14
      by_cases c15 : x7_2 < (a0.size : Int)
      rotate_left
      ·rw [if_neg c15] at H
       exact absurd H (by simp)
      rw [if_pos c15] at H
      have c15b0 : decide (x7_2 < (a0.size : Int)) = true := decide_eq_true c15
      clear c15
      have H' := a_ H
      clear H
      have p16 : 0 ≤ (x7_2 : Int) := od_
      have q16 : x7_2 < (a0.size : Int) := od_
      have hx16 := bt_at a0 x7_2
      replace p16 := eq_true p16
      replace q16 := eq_true q16
      go_wp2
      repeat (go_quiet (fail); try go_wp2)
      go_roundg k2
      case measure => have := HJ5.out; have := HK2.out; omega
      case rel => exact ⟨(IntKind.u64.wrap ((IntKind.u64.wrap (256 * x6_2)) + (IntKind.u64.wrap (bt a0 x7_2)))), (wrap64 (x7_2 + 1)), fz_, fz_, H', ⟨by have := HJ5.out; have := HK2.out; omega⟩, dr_⟩
     rw [if_neg c13] at H
     have c13b0 : decide (x7_2 ≤ (wrap64 (bt a0 0))) = false := decide_eq_false c13
     clear c13
     obtain ⟨ji17, hji17⟩ : ∃ j_ : Int, (wrap64 ((wrap64 (bt a0 0)) + 1)) = j_ := ⟨_, rfl⟩
     replace H : (if 0 ≤ (ji17) then (if (ji17) ≤ (a0.size : Int) then (some (x6_2, a0.extract ((ji17) : Int).toNat a0.size, 0)) else (none)) else (none)) = some (r1, r2, r3) := by first | (rw [hji17] at H; exact H) | (simp only [hji17] at H ⊢; exact H)
     (try rw [hji17] at c12b0)
     have hji17w : (IntKind.i64.wrap ((wrap64 (bt a0 0)) + 1)) = ji17 := (i64_w _).trans hji17
     by_cases c18 : 0 ≤ (ji17)
     rotate_left
     ·rw [if_neg c18] at H
      exact absurd H (by simp)
     rw [if_pos c18] at H
     have c18b0 := eq_true c18
     have c18b1 : decide (0 ≤ (ji17)) = true := decide_eq_true c18
     clear c18
     by_cases c19 : (ji17) ≤ (a0.size : Int)
     rotate_left
     ·rw [if_neg c19] at H
      exact absurd H (by simp)
     rw [if_pos c19] at H
     have c19b0 := eq_true c19
     have c19b1 : decide ((ji17) ≤ (a0.size : Int)) = true := decide_eq_true c19
     clear c19
     simp only [Option.some.injEq, Prod.mk.injEq] at H
     obtain ⟨rfl, rfl, rfl⟩ := H
     go_wp2
     repeat (go_quiet (fail); try go_wp2)
     go_ret3
     exact ⟨by first | rfl | (simp; done) | (simp only [← hji17] <;> (first | rfl | simp)) | (simp [*]; done), dr_⟩
/-! ### gafferref01_four: function 93 -/
def gafferref01_four.f (a0 : Int) : Option (ByteArray) := some (strOfNums (([(wrap64 (Int.tdiv a0 16777216)) % 256, (wrap64 (Int.tdiv a0 65536)) % 256, (wrap64 (Int.tdiv a0 256)) % 256, (a0) % 256] : List Int)))
theorem gafferref01_four.calls (a0 : Int) (r : ByteArray) (w : World) (h : gafferref01_four.f a0 = some r) :
  Calls Try.prog 93 #[.int .i64 a0] w fun e w' => e = .returned (.string r) ∧ Below w.heap.size w w' := by
 have HB := a_ (Below.refl w.heap.size w)
 have H : (some (strOfNums (([(wrap64 (Int.tdiv a0 16777216)) % 256, (wrap64 (Int.tdiv a0 65536)) % 256, (wrap64 (Int.tdiv a0 256)) % 256, (a0) % 256] : List Int)))) = some r := h
 clear h
 obtain ⟨y187, hy187⟩ : ∃ y_ : List Int, y_ = (([(wrap64 (Int.tdiv a0 16777216)) % 256, (wrap64 (Int.tdiv a0 65536)) % 256, (wrap64 (Int.tdiv a0 256)) % 256, (a0) % 256] : List Int)) := ⟨_, rfl⟩
 replace H : (some (strOfNums y187)) = some r := by first | (rw [hy187]; with_reducible exact H) | (have H2_ := (Option.bind_some _ _).symm.trans H; rw [hy187]; with_reducible exact H2_) | (have H2_ := (Option.bind_some _ _).symm.trans H; with_reducible exact H2_) | with_reducible exact H | (rw [hy187]; exact H) | exact H
 have Ny187 := a_ hy187
 clear hy187
 obtain rfl := Option.some.inj H
 go_enter Try.func93, Try.ntmps93
 go_wp2_with (first | ((with_reducible refine gd_ 14 ?_); refine Kd.R_lit (Kd.int .u8) _ 5 ?hg (N := 14) ?hd (xs := ([(wrap64 (Int.tdiv a0 16777216)) % 256, (wrap64 (Int.tdiv a0 65536)) % 256, (wrap64 (Int.tdiv a0 256)) % 256, (a0) % 256] : List Int)) (inner := [.int .u8 ((wrap64 (Int.tdiv a0 16777216)) % 256), .int .u8 ((wrap64 (Int.tdiv a0 65536)) % 256), .int .u8 ((wrap64 (Int.tdiv a0 256)) % 256), .int .u8 ((a0) % 256)]) (ok := fun _ => True) (okp := fun _ => True) ?hr ?hp (fun _ hk => hk) trivial (Below.refl _ _) (Nat.le_refl _) (by simp) ?_; (case hd => rfl); (case hg => rfl); (case hr => first | (go_simp; done) | (go_simp; rfl)); (case hp => exact (Reps.one (show Kd.M (Kd.int .u8) _ _ _ ((wrap64 (Int.tdiv a0 16777216)) % 256) [.int .u8 ((wrap64 (Int.tdiv a0 16777216)) % 256)] from rfl) (Reps.one (show Kd.M (Kd.int .u8) _ _ _ ((wrap64 (Int.tdiv a0 65536)) % 256) [.int .u8 ((wrap64 (Int.tdiv a0 65536)) % 256)] from rfl) (Reps.one (show Kd.M (Kd.int .u8) _ _ _ ((wrap64 (Int.tdiv a0 256)) % 256) [.int .u8 ((wrap64 (Int.tdiv a0 256)) % 256)] from rfl) (Reps.one (show Kd.M (Kd.int .u8) _ _ _ ((a0) % 256) [.int .u8 ((a0) % 256)] from rfl) (Reps.none _ _)))))); intro v188 w2 ho3 hb hg_ hnew_; clear hg_ hnew_; (first | rw [← Ny187.out] at ho3 | (simp only [Int.reduceToNat] at ho3; rw [← Ny187.out] at ho3)); have HO189 := a_ (Kd.R_lower ho3 (below_size (bl_ HB))); replace HB := hB_ (bl_ HB) hb; clear hb ho3; have hcv4 := own_string (P := Try.prog) Try.underlying111 Try.underlying5 Try.underlying9 (Kd.own_of_R HO189.out)))
 go_ret
 exact ⟨fz_, bl_ HB⟩

def gafferref01_Frame.f (k : Nat) (a0 : ByteArray) : Option (ByteArray × Int) := if (a0.size : Int) > 65536 then (some ((⟨#[]⟩ : ByteArray), 2)) else ((gafferref01_four.f (a0.size : Int)).bind fun t190 => (if t190.size + a0.size ≤ 9223372036854775807 then ((gafferref01_check.f k (t190 ++ a0)).bind fun t191 => (if t190.size + t191.size ≤ 9223372036854775807 then (if (t190 ++ t191).size + a0.size ≤ 9223372036854775807 then (some ((t190 ++ t191) ++ a0, 0)) else (none)) else (none))) else (none)))
theorem gafferref01_Frame.mono : ∀ a0 k, LeO (gafferref01_Frame.f k a0) (gafferref01_Frame.f (k + 1) a0) := by
 intro a0 k
 unfold gafferref01_Frame.f
 repeat' with_reducible first | apply gafferref01_check.mono | apply LeO.refl | apply LeO.none | apply LeO.ite | refine LeO.bind ?_ (fun _ => ?_)
theorem gafferref01_Frame.calls (k : Nat) (a0 : ByteArray) (r1 : ByteArray) (r2 : Int) (w : World) (h : gafferref01_Frame.f k a0 = some (r1, r2)) :
  Calls Try.prog 60 #[.string a0] w fun e w' => e = .returned (.tuple #[.string r1, .int .i64 r2]) ∧ Below w.heap.size w w' := by
 have HB := a_ (Below.refl w.heap.size w)
 have H : (if (a0.size : Int) > 65536 then (some ((⟨#[]⟩ : ByteArray), 2)) else ((gafferref01_four.f (a0.size : Int)).bind fun t190 => (if t190.size + a0.size ≤ 9223372036854775807 then ((gafferref01_check.f k (t190 ++ a0)).bind fun t191 => (if t190.size + t191.size ≤ 9223372036854775807 then (if (t190 ++ t191).size + a0.size ≤ 9223372036854775807 then (some ((t190 ++ t191) ++ a0, 0)) else (none)) else (none))) else (none)))) = some (r1, r2) := h
 clear h
 by_cases c2 : (a0.size : Int) > 65536
 ·rw [if_pos c2] at H
  have c2b0 : decide (65536 < (a0.size : Int)) = true := decide_eq_true c2
  have c2b1 : decide (65536 < a0.size) = true := decide_eq_true (by omega)
  clear c2
  simp only [Option.some.injEq, Prod.mk.injEq] at H
  obtain ⟨rfl, rfl⟩ := H
  go_enter Try.func60, Try.ntmps60
  go_wp2
  go_ret2
  exact ⟨fz_, bl_ HB⟩
 rw [if_neg c2] at H
 have c2b0 : decide (65536 < (a0.size : Int)) = false := decide_eq_false c2
 have c2b1 : decide (65536 < a0.size) = false := decide_eq_false (by omega)
 clear c2
 obtain ⟨t190, A30, H⟩ := Option.bind_eq_some_iff.mp H
 try dsimp only at H
 have A3 := a_ A30
 clear A30
 by_cases c4 : t190.size + a0.size ≤ 9223372036854775807
 rotate_left
 ·rw [if_neg c4] at H
  exact absurd H (by simp)


 rw [if_pos c4] at H
 have c4b0 := eq_true c4
 have c4b1 : decide (t190.size + a0.size ≤ 9223372036854775807) = true := decide_eq_true c4
 try have c4b2 : (9223372036854775807 < t190.size + a0.size) = False := eq_false (Nat.not_lt.2 c4)
 clear c4
 obtain ⟨t191, A50, H⟩ := Option.bind_eq_some_iff.mp H
 try dsimp only at H
 have A5 := a_ A50
 clear A50
 by_cases c6 : t190.size + t191.size ≤ 9223372036854775807
 rotate_left
 ·rw [if_neg c6] at H
  exact absurd H (by simp)
 rw [if_pos c6] at H
 have c6b0 := eq_true c6
 have c6b1 : decide (t190.size + t191.size ≤ 9223372036854775807) = true := decide_eq_true c6
 try have c6b2 : (9223372036854775807 < t190.size + t191.size) = False := eq_false (Nat.not_lt.2 c6)
 clear c6
 by_cases c7 : (t190 ++ t191).size + a0.size ≤ 9223372036854775807
 rotate_left
 ·rw [if_neg c7] at H
  exact absurd H (by simp)
 rw [if_pos c7] at H
 have c7b0 := eq_true c7
 have c7b1 : decide ((t190 ++ t191).size + a0.size ≤ 9223372036854775807) = true := decide_eq_true c7
 try have c7b2 : (9223372036854775807 < (t190 ++ t191).size + a0.size) = False := eq_false (Nat.not_lt.2 c7)
 clear c7
 simp only [Option.some.injEq, Prod.mk.injEq] at H
 obtain ⟨rfl, rfl⟩ := H
 (try (have c7b0x := c7b0; simp only [ByteArray.size_extract, ByteArray.size_append, Nat.min_self, Nat.sub_zero] at c7b0x))
 (try (have c7b1x := c7b1; simp only [ByteArray.size_extract, ByteArray.size_append, Nat.min_self, Nat.sub_zero] at c7b1x))
 (try (have c7b2x := c7b2; simp only [ByteArray.size_extract, ByteArray.size_append, Nat.min_self, Nat.sub_zero] at c7b2x))
 go_enter Try.func60, Try.ntmps60
 go_wp2_with (first | ((with_reducible refine gk_ 93 ?_); refine gl_ (some 10) Try.func93 #[.int .i64 (a0.size : Int)] ?_; (with_reducible refine (gafferref01_four.calls (a0.size : Int) t190 _ A3.out).mono ?_); rintro e w8 ⟨rfl, hb⟩; refine ⟨_, rfl, ?_⟩; replace HB := hB_ (bl_ HB) hb; (try clear hb)) | ((with_reducible refine gk_ 65 ?_); refine gl_ (some 15) Try.func65 #[.string (t190 ++ a0)] ?_; (with_reducible refine (gafferref01_check.calls k (t190 ++ a0) t191 _ A5.out).mono ?_); rintro e w9 ⟨rfl, hb⟩; refine ⟨_, rfl, ?_⟩; replace HB := hB_ (bl_ HB) hb; (try clear hb)))
 go_ret2
 exact ⟨fz_, bl_ HB⟩
/-! ### gafferref01_Number: function 66 -/
def gafferref01_Number.l0 : Nat → Int → List Int → Option (ByteArray)
 | 0, _, _ => none
 | k + 1, x0, x3 => if x0 > 0 then ((some (([(Int.tmod x0 256) % 256] : List Int) : List Int)).bind fun y192 => (if y192.length + x3.length < 140737488355328 then (gafferref01_Number.l0 k (IntKind.u64.wrap (Int.tdiv x0 256)) (y192 ++ x3)) else (none))) else ((some (([((x3.length : Int)) % 256] : List Int) : List Int)).bind fun y198 => (if y198.length + x3.length < 140737488355328 then (some (strOfNums (y198 ++ x3))) else (none)))
def gafferref01_Number.f (k : Nat) (a0 : Int) : Option (ByteArray) := gafferref01_Number.l0 k a0 ([] : List Int)
theorem gafferref01_Number.mono_l : ∀ k, (∀ y0 y1, LeO (gafferref01_Number.l0 k y0 y1) (gafferref01_Number.l0 (k + 1) y0 y1))
 | 0 => fun _ _ r h => by simp [gafferref01_Number.l0] at h
 | k + 1 => by
  have ih0 := gafferref01_Number.mono_l k
  ·intro y0 y1
   unfold gafferref01_Number.l0
   repeat' with_reducible first | apply ih0 | apply LeO.refl | apply LeO.none | apply LeO.ite | refine LeO.bind ?_ (fun _ => ?_)
theorem gafferref01_Number.mono : ∀ a0 k, LeO (gafferref01_Number.f k a0) (gafferref01_Number.f (k + 1) a0) := by
 intro a0 k
 have ih0 := gafferref01_Number.mono_l k
 unfold gafferref01_Number.f
 repeat' with_reducible first | apply ih0 | apply LeO.refl | apply LeO.none | apply LeO.ite | refine LeO.bind ?_ (fun _ => ?_)
theorem gafferref01_Number.calls (k : Nat) (a0 : Int) (r : ByteArray) (w : World) (h : gafferref01_Number.f k a0 = some r) :
  Calls Try.prog 66 #[.int .u64 a0] w fun e w' => e = .returned (.string r) ∧ Below w.heap.size w w' := by
 have HB := a_ (Below.refl w.heap.size w)
 have H : (gafferref01_Number.l0 k a0 ([] : List Int)) = some r := h
 clear h
 have H' := a_ H
 clear H
 go_enter Try.func66, Try.ntmps66
 go_wp2
 go_loopg [0, 3] k (fun kq v0 v3 w' => ∃ (x0_1 : Int) (x3_1 : List Int), v0 = .int .u64 x0_1 ∧ Aside0 (gafferref01_Number.l0 kq x0_1 x3_1 = some r) ∧ Aside0 (kq ≤ k) ∧ Aside0 (Kd.R (Kd.int .u8) 5 w' w.heap.size (fun _ => True) v3 x3_1) ∧ Aside0 (Below w.heap.size w w'))
 case atStart => exact ⟨(a0), (([] : List Int)), fz_, H', ⟨Nat.le_refl _⟩, ⟨by first | exact Kd.R_nil _ _ _ _ _ | exact Kd.N_nil _ _ _ _ _ | exact Kd.V_nil _ _ _ _ _ | exact Kd.Q_nil _ _ _ _ _ | exact Kd.S_nil _ _ _ _ _⟩, ⟨bl_ HB⟩⟩
 case round =>
  clear H'
  obtain ⟨x0_1, x3_1, rfl, HA, HK1, HO_3, HB⟩ := hrel
  cases gk with
  | zero => exact absurd HA.out (by simp [gafferref01_Number.l0])
  | succ k1 =>
   have H := HA.out
   clear HA
   simp only [gafferref01_Number.l0] at H
   by_cases c2 : x0_1 > 0
   rotate_left
   ·rw [if_neg c2] at H
    have c2b0 : decide (0 < x0_1) = false := decide_eq_false c2
    clear c2
    obtain ⟨y198, hy198⟩ : ∃ y_ : List Int, y_ = (([((x3_1.length : Int)) % 256] : List Int)) := ⟨_, rfl⟩
    replace H : (if y198.length + x3_1.length < 140737488355328 then (some (strOfNums (y198 ++ x3_1))) else (none)) = some r := by first | (rw [hy198]; with_reducible exact H) | (have H2_ := (Option.bind_some _ _).symm.trans H; rw [hy198]; with_reducible exact H2_) | (have H2_ := (Option.bind_some _ _).symm.trans H; with_reducible exact H2_) | with_reducible exact H | (rw [hy198]; exact H) | exact H
    have Ny198 := a_ hy198
    clear hy198
    by_cases c8 : y198.length + x3_1.length < 140737488355328
    rotate_left
    ·rw [if_neg c8] at H
     exact absurd H (by simp)


    rw [if_pos c8] at H
    have LMc8 := a_ c8
    clear c8
    obtain ⟨y201, hy201⟩ : ∃ y_ : List Int, y_ = (y198 ++ x3_1) := ⟨_, rfl⟩
    replace H : (some (strOfNums y201)) = some r := by first | (rw [hy201]; with_reducible exact H) | (have H2_ := (Option.bind_some _ _).symm.trans H; rw [hy201]; with_reducible exact H2_) | (have H2_ := (Option.bind_some _ _).symm.trans H; with_reducible exact H2_) | with_reducible exact H | (rw [hy201]; exact H) | exact H
    have Ny201 := a_ hy201
    clear hy201
    obtain rfl := Option.some.inj H
    obtain ⟨Ao9, co9, eo9⟩ := Kd.R_slice HO_3.out
    subst eo9
    go_wp2_with (first | ((with_reducible refine gd_ 17 ?_); refine Kd.R_lit (Kd.int .u8) _ 5 ?hg (N := 17) ?hd (xs := ([((x3_1.length : Int)) % 256] : List Int)) (inner := [.int .u8 (((x3_1.length : Int)) % 256)]) (ok := fun _ => True) (okp := fun _ => True) ?hr ?hp (fun _ hk => hk) trivial (Below.refl _ _) (Nat.le_refl _) (by simp) ?_; (case hd => rfl); (case hg => rfl); (case hr => first | (go_simp; done) | (go_simp; rfl)); (case hp => exact (Reps.one (show Kd.M (Kd.int .u8) _ _ _ (((x3_1.length : Int)) % 256) [.int .u8 (((x3_1.length : Int)) % 256)] from rfl) (Reps.none _ _))); intro v199 w10 ho11 hb hg_ hnew_; clear hg_ hnew_; (first | rw [← Ny198.out] at ho11 | (simp only [Int.reduceToNat] at ho11; rw [← Ny198.out] at ho11)); have HO200 := a_ (Kd.R_lower (Kd.R_new' ho11 (Kd.R_lt (by refine rq_ ?_; exact HO_3.out))) (below_size (bl_ HB))); replace HO_3 := a_ (Kd.R_elder' (by refine rq_ ?_; exact HO_3.out) (Kd.R_base ho11) hb); replace HB := hB_ (bl_ HB) hb; clear hb ho11) | ((with_reducible refine gate_builtin (b := .append) (xs := #[.tmp 17, .tmp 18]) rfl ?_); at_builtin; refine Kd.R_append_rows (Kd.int .u8) (w0 := w) w.heap.size rfl (.tmp 17) (.tmp 18) 111 5 (.int .u8 0) 1 rfl Try.underlying111 info5 rfl (by decide) (by omega) v199 y198 x3_1 _ _ _ (fun k_ => some k_ ≠ (.slice Ao9 x3_1.length co9 : Value).ownBlock) (fun _ => False) rfl rfl ?aO ?aR (fun _ _ h => h) (fun _ h => h.elim) ?aF ?aB ?aS ?aL ?_; (case aR => exact cl_ ((Kd.R_reads' HO_3.out).2.2)); (case aB => exact (bl_ HB)); (case aF => exact (fun k_ hk => Kd.fresh' (Kd.R_lt (by refine rq_ ?_; exact HO_3.out)) k_ hk)); (case aO => exact (by refine rq_ ?_; exact Kd.R_mono HO200.out (fun _ hk => hk.2))); (case aS => exact (below_size (bl_ HB))); (case aL => have := LMc8.out; omega); intro v202 w12 ho hb hg hat; rw [← Ny201.out] at ho; replace HO_3 := a_ (Kd.R_after (ok := (fun _ => True)) (by refine rq_ ?_; exact HO_3.out) hg hat); replace HB := a_ (hb); have HO203 := a_ (ho); clear HO200; clear ho hb hg hat; have hcv13 := own_string (P := Try.prog) Try.underlying111 Try.underlying5 Try.underlying9 (Kd.own_of_R HO203.out)))
    go_ret
    exact ⟨fz_, bl_ HB⟩
   rw [if_pos c2] at H
   have c2b0 : decide (0 < x0_1) = true := decide_eq_true c2
   clear c2
   obtain ⟨y192, hy192⟩ : ∃ y_ : List Int, y_ = (([(Int.tmod x0_1 256) % 256] : List Int)) := ⟨_, rfl⟩
   replace H : (if y192.length + x3_1.length < 140737488355328 then (gafferref01_Number.l0 k1 (IntKind.u64.wrap (Int.tdiv x0_1 256)) (y192 ++ x3_1)) else (none)) = some r := by first | (rw [hy192]; with_reducible exact H) | (have H2_ := (Option.bind_some _ _).symm.trans H; rw [hy192]; with_reducible exact H2_) | (have H2_ := (Option.bind_some _ _).symm.trans H; with_reducible exact H2_) | with_reducible exact H | (rw [hy192]; exact H) | exact H
   have Ny192 := a_ hy192
   clear hy192
   by_cases c3 : y192.length + x3_1.length < 140737488355328
   rotate_left
   ·rw [if_neg c3] at H
    exact absurd H (by simp)
   rw [if_pos c3] at H
   have LMc3 := a_ c3
   clear c3
   obtain ⟨y195, hy195⟩ : ∃ y_ : List Int, y_ = (y192 ++ x3_1) := ⟨_, rfl⟩
   replace H : (gafferref01_Number.l0 k1 (IntKind.u64.wrap (Int.tdiv x0_1 256)) y195) = some r := by first | (rw [hy195]; with_reducible exact H) | (have H2_ := (Option.bind_some _ _).symm.trans H; rw [hy195]; with_reducible exact H2_) | (have H2_ := (Option.bind_some _ _).symm.trans H; with_reducible exact H2_) | with_reducible exact H | (rw [hy195]; exact H) | exact H
   have Ny195 := a_ hy195
   clear hy195
   have H' := a_ H
   clear H
   go_wp2_with (first | ((with_reducible refine gd_ 9 ?_); refine Kd.R_lit (Kd.int .u8) _ 5 ?hg (N := 9) ?hd (xs := ([(Int.tmod x0_1 256) % 256] : List Int)) (inner := [.int .u8 ((Int.tmod x0_1 256) % 256)]) (ok := fun _ => True) (okp := fun _ => True) ?hr ?hp (fun _ hk => hk) trivial (Below.refl _ _) (Nat.le_refl _) (by simp) ?_; (case hd => rfl); (case hg => rfl); (case hr => first | (go_simp; done) | (go_simp; rfl)); (case hp => exact (Reps.one (show Kd.M (Kd.int .u8) _ _ _ ((Int.tmod x0_1 256) % 256) [.int .u8 ((Int.tmod x0_1 256) % 256)] from rfl) (Reps.none _ _))); intro v193 w4 ho5 hb hg_ hnew_; clear hg_ hnew_; (first | rw [← Ny192.out] at ho5 | (simp only [Int.reduceToNat] at ho5; rw [← Ny192.out] at ho5)); have HO194 := a_ (Kd.R_lower (Kd.R_new' ho5 (Kd.R_lt (by refine rq_ ?_; exact HO_3.out))) (below_size (bl_ HB))); replace HO_3 := a_ (Kd.R_elder' (by refine rq_ ?_; exact HO_3.out) (Kd.R_base ho5) hb); replace HB := hB_ (bl_ HB) hb; clear hb ho5; obtain ⟨Ao7, co7, eo7⟩ := Kd.R_slice HO_3.out; subst eo7) | ((with_reducible refine gate_builtin (b := .append) (xs := #[.tmp 9, .tmp 10]) rfl ?_); at_builtin; refine Kd.R_append_rows (Kd.int .u8) (w0 := w) w.heap.size rfl (.tmp 9) (.tmp 10) 111 5 (.int .u8 0) 1 rfl Try.underlying111 info5 rfl (by decide) (by omega) v193 y192 x3_1 _ _ _ (fun k_ => some k_ ≠ (.slice Ao7 x3_1.length co7 : Value).ownBlock) (fun _ => False) rfl rfl ?aO ?aR (fun _ _ h => h) (fun _ h => h.elim) ?aF ?aB ?aS ?aL ?_; (case aR => exact cl_ ((Kd.R_reads' HO_3.out).2.2)); (case aB => exact (bl_ HB)); (case aF => exact (fun k_ hk => Kd.fresh' (Kd.R_lt (by refine rq_ ?_; exact HO_3.out)) k_ hk)); (case aO => exact (by refine rq_ ?_; exact Kd.R_mono HO194.out (fun _ hk => hk.2))); (case aS => exact (below_size (bl_ HB))); (case aL => have := LMc3.out; omega); intro v196 w6 ho hb hg hat; rw [← Ny195.out] at ho; replace HO_3 := a_ (Kd.R_after (ok := (fun _ => True)) (by refine rq_ ?_; exact HO_3.out) hg hat); replace HB := a_ (hb); have HO197 := a_ (ho); clear HO194; clear ho hb hg hat))
   go_roundg k1
   case measure => have := HK1.out; omega
   case rel => exact ⟨(IntKind.u64.wrap (Int.tdiv x0_1 256)), (y195), fz_, H', ⟨by have := HK1.out; omega⟩, ⟨by refine rq_ ?_; exact Kd.R_mono HO197.out (fun _ hk => trivial)⟩, ⟨bl_ HB⟩⟩
/-! ### gafferref04_file: function 44 -/
def gafferref04_file.f (k : Nat) (a0_0 : Int) (a0_1 : Int) : Option (ByteArray) := (gafferref01_Number.f k a0_0).bind fun t205 => ((gafferref01_Number.f k (IntKind.u64.wrap (a0_1))).bind fun t206 => (if t205.size + t206.size ≤ 9223372036854775807 then ((gafferref01_Frame.f k (t205 ++ t206)).bind fun bt207 => (some bt207.1)) else (none)))
theorem gafferref04_file.mono : ∀ a0 a1 k, LeO (gafferref04_file.f k a0 a1) (gafferref04_file.f (k + 1) a0 a1) := by
 intro a0 a1 k
 unfold gafferref04_file.f
 repeat' with_reducible first | apply gafferref01_Frame.mono | apply gafferref01_Number.mono | apply LeO.refl | apply LeO.none | apply LeO.ite | refine LeO.bind ?_ (fun _ => ?_)
def gafferref04_file.T1 : Bool × List (List Nat × List Nat) := (true, [([], []), ([0], [0]), ([1], [1]), ([], []), ([3], [3]), ([4], [4]), ([5, 2], [5]), ([2, 6], [2, 6]), ([7, 6], [7]), ([8], [8]), ([9], [9]), ([9], [9]), ([10, 8, 0, 1, 2, 3, 4, 5, 6, 7, 8, 9, 10], [10]), ([11, 12, 0, 1, 2, 3, 4, 5, 6, 7, 8, 9, 10, 11, 12], [11])])
def gafferref04_file.B1 : List Nat := [0, 1, 3, 0, 8, 24, 63, 127, 255, 511, 1023, 1023, 2047, 8191]
theorem gafferref04_file.tab1 : rtab .any (opsOf Try.f44 1) = gafferref04_file.T1 := by kernel_rfl
theorem gafferref04_file.bits1 : waitsOk gafferref04_file.T1.2 gafferref04_file.B1 = true := by kernel_rfl
theorem gafferref04_file.calls (k : Nat) (a0_0 : Int) (a0_1 : Int) (r : ByteArray) (w : World) (h : gafferref04_file.f k a0_0 a0_1 = some r) :
  Calls Try.prog 44 #[.agg #[.int .u64 a0_0, .int .i64 a0_1]] w fun e w' => e = .returned (.string r) ∧ Below w.heap.size w w' := by
 have hu27 := Try.underlying27
 have HB := a_ (Below.refl w.heap.size w)
 have H : ((gafferref01_Number.f k a0_0).bind fun t205 => ((gafferref01_Number.f k (IntKind.u64.wrap (a0_1))).bind fun t206 => (if t205.size + t206.size ≤ 9223372036854775807 then ((gafferref01_Frame.f k (t205 ++ t206)).bind fun bt207 => (some bt207.1)) else (none)))) = some r := h
 clear h
 obtain ⟨t205, A20, H⟩ := Option.bind_eq_some_iff.mp H
 try dsimp only at H
 have A2 := a_ A20
 clear A20
 obtain ⟨t206, A30, H⟩ := Option.bind_eq_some_iff.mp H
 try dsimp only at H
 have A3 := a_ A30
 clear A30
 by_cases c4 : t205.size + t206.size ≤ 9223372036854775807
 rotate_left
 ·rw [if_neg c4] at H
  exact absurd H (by simp)


 rw [if_pos c4] at H
 have c4b0 := eq_true c4
 have c4b1 : decide (t205.size + t206.size ≤ 9223372036854775807) = true := decide_eq_true c4
 try have c4b2 : (9223372036854775807 < t205.size + t206.size) = False := eq_false (Nat.not_lt.2 c4)
 clear c4
 obtain ⟨⟨t207, t208⟩, A50, H⟩ := Option.bind_eq_some_iff.mp H
 try dsimp only at H
 have A5 := a_ A50
 clear A50
 obtain rfl := Option.some.inj H
 go_enter Try.func44, Try.ntmps44
 try go_wp2_with (first | ((with_reducible refine gd_ 1 ?_); refine bx_ 1 #[.int .u64 a0_0, .int .i64 a0_1] 27 ?_; intro gb204 hg w6 hbox hb; have BK204 := a_ (hbox); have GE204 := a_ (bs_0 hg HB); replace HB := hB_ (bl_ HB) hb; clear hb hbox hg))
 have n0_ := a_ (blk_drew BK204.out)
 have n1_ := a_ (below_drew1 HB.out)
 clear BK204
 clear HB
 have BK204 := n0_
 have HB := n1_
 clear n0_ n1_
 refine start_ (n := 14) (S := fun w' => w'.cell? ⟨gb204, 0, none⟩ = some (.int .u64 a0_0) ∧ w'.cell? ⟨gb204, 1, none⟩ = some (.int .i64 a0_1)) (ds := []) #[false, false, false, false, false, false, false, false, false, false, false, false, false, false] (by kernel_rfl) rfl rfl ⟨(blk_cell BK204.out 0).trans rfl, (blk_cell BK204.out 1).trans rfl⟩ (fun hHeld => ?_); refine with_tabW gafferref04_file.tab1 gafferref04_file.bits1 (fun HT_ HW_ => ?_)
 generalize w6.drew = w7 at BK204 HB hHeld ⊢
 refine pu_ HT_ 0 (some 6) ?_
 refine pu_ HT_ 3 (some 9) ?_
 refine take_ (i := 1) (N := some 7) (v := ?_) (a' := ?_) #[true, true, false, true, false, false, false, false, false, false, false, false, false, false] rfl rfl (take_ofW HT_.out HW_.out (by kernel_rfl)) (fun _ _ _ h => h) (Or.inl ⟨by rfl, ?_⟩) hHeld ?_ ?_
 rotate_left
 ·rintro w' ⟨s0, s1⟩
  go_simp
  with_reducible rfl
 rotate_left
 ·exact ap_
 refine take_ (i := 4) (N := some 10) (v := ?_) (a' := ?_) #[true, true, false, true, true, false, false, false, false, false, false, false, false, false] rfl rfl (take_ofW HT_.out HW_.out (by kernel_rfl)) (fun _ _ _ h => h) (Or.inl ⟨by rfl, ?_⟩) hHeld ?_ ?_
 rotate_left
 ·rintro w' ⟨s0, s1⟩
  go_simp
  with_reducible rfl
 rotate_left
 ·exact ap_
 refine pu_ HT_ 5 (some 11) ?_
 refine one_ (i := 2) (N := some 8) #[true, true, true, true, true, true, false, false, false, false, false, false, false, false] rfl rfl (one_of HT_.out (by kernel_rfl)) (by decide) (fun K hK => ?_)
 refine goes_ Try.func66 (by kernel_rfl) rfl #[.int .u64 a0_0] (by rfl) rfl rfl (ar_) ?_
 with_reducible refine (gafferref01_Number.calls k a0_0 t205 _ A2.out).mono ?_
 rintro e w8 ⟨rfl, hb⟩
 refine ⟨_, rfl, ?_⟩
 have n0_ := bB_ BK204 hb
 have n1_ := hB_ (bl_1 HB GE204) hb
 clear BK204
 clear HB
 have BK204 := n0_
 have HB := n1_
 clear n0_ n1_
 (try clear hb)
 (try clear hb2)
 (try clear hk)
 (try clear hi)
 refine hK.out _ _ ⟨(blk_cell BK204.out 0).trans rfl, (blk_cell BK204.out 1).trans rfl⟩ (fun hHeld => ?_)
 clear hK K
 refine norm_ (a' := ?_) ?_ ?_
 rotate_left
 ·show Act.put _ (some 8) _ = _
  simp only [Act.put, List.setIfInBounds_toArray, List.set_cons_zero, List.set_cons_succ, i64_w, i32_w]
  rfl
 refine one_ (i := 6) (N := some 12) #[true, true, true, true, true, true, true, false, false, false, false, false, false, false] rfl rfl (one_of HT_.out (by kernel_rfl)) (by decide) (fun K hK => ?_)
 refine goes_ Try.func66 (by kernel_rfl) rfl #[.int .u64 (IntKind.u64.wrap (a0_1))] (by rfl) rfl rfl (ar_) ?_
 with_reducible refine (gafferref01_Number.calls k (IntKind.u64.wrap (a0_1)) t206 _ A3.out).mono ?_
 rintro e w9 ⟨rfl, hb⟩
 refine ⟨_, rfl, ?_⟩
 have n0_ := bB_ BK204 hb
 have n1_ := hB_ (bl_1 HB GE204) hb
 clear BK204
 clear HB
 have BK204 := n0_
 have HB := n1_
 clear n0_ n1_
 (try clear hb)
 (try clear hb2)
 (try clear hk)
 (try clear hi)
 refine hK.out _ _ ⟨(blk_cell BK204.out 0).trans rfl, (blk_cell BK204.out 1).trans rfl⟩ (fun hHeld => ?_)
 clear hK K
 refine norm_ (a' := ?_) ?_ ?_
 rotate_left
 ·show Act.put _ (some 12) _ = _
  simp only [Act.put, List.setIfInBounds_toArray, List.set_cons_zero, List.set_cons_succ, i64_w, i32_w]
  rfl
 refine pu_ HT_ 7 (some 13) ?_
 refine one_ (i := 8) (N := some 14) #[true, true, true, true, true, true, true, true, true, false, false, false, false, false] rfl rfl (one_of HT_.out (by kernel_rfl)) (by decide) (fun K hK => ?_)
 refine goes_ Try.func60 (by kernel_rfl) rfl #[.string (t205 ++ t206)] (by rfl) rfl rfl (ar_) ?_
 with_reducible refine (gafferref01_Frame.calls k (t205 ++ t206) t207 t208 _ A5.out).mono ?_
 rintro e w10 ⟨rfl, hb⟩
 refine ⟨_, rfl, ?_⟩
 have n0_ := bB_ BK204 hb
 have n1_ := hB_ (bl_1 HB GE204) hb
 clear BK204
 clear HB
 have BK204 := n0_
 have HB := n1_
 clear n0_ n1_
 (try clear hb)
 (try clear hb2)
 (try clear hk)
 (try clear hi)
 refine hK.out _ _ ⟨(blk_cell BK204.out 0).trans rfl, (blk_cell BK204.out 1).trans rfl⟩ (fun hHeld => ?_)
 clear hK K
 refine norm_ (a' := ?_) ?_ ?_
 rotate_left
 ·show Act.put _ (some 14) _ = _
  simp only [Act.put, List.setIfInBounds_toArray, List.set_cons_zero, List.set_cons_succ, i64_w, i32_w]
  rfl
 refine pu_ HT_ 9 (some 5) ?_
 refine pu_ HT_ 10 (some 15) ?_
 refine pu_ HT_ 11 (some 16) ?_
 refine pu_ HT_ 12 (some 3) ?_
 refine pu_ HT_ 13 (some 4) ?_
 refine done_ (done_of HT_.out (by kernel_rfl)) ?_
 try go_wp2
 go_ret
 exact ⟨fz_, bl_1 HB GE204⟩end Go.Proofs.Ytpigjmjbfpipnaa.PD
