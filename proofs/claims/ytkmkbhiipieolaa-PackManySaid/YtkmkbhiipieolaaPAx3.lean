-- Written for this claim by a program of this session. Lean checks it.
import Derived.Test.YtkmkbhiipieolaaPAx0
import Derived.Test.YtkmkbhiipieolaaPAx1
import Derived.Test.YtkmkbhiipieolaaPAx2
namespace Go.Proofs.Ytkmkbhiipieolaa.PA
open Go.RowKit Go.Proofs.YtkmkbhiipieolaaW.PrintWords Go.Proofs.YtkmkbhiipieolaaW.PrintLast Go.Proofs.YtkmkbhiipieolaaW.PrintMore Go.Proofs.Ytkmkbhiipieolaa.Sh Go.Proofs.Ytkmkbhiipieolaa.Op
attribute [local go_sem] max2_int min2_int max_two min_two max_three min_three max_four min_four   -- for this text's walks alone
set_option linter.unusedVariables false
set_option linter.unusedSimpArgs false

/-! ### gafferref01_TakeNumber: function 24 -/
mutual
def gafferref01_TakeNumber.j0 : Nat → ByteArray → Int → Bool → Option (Int × ByteArray × Int)
 | 0, _, _, _ => none
 | k + 1, x0, x5, x26 => if x26 = true then (some (0, (⟨#[]⟩ : ByteArray), 4)) else (if (x0.size : Int) < (wrap64 (x5 + 1)) then (some (0, (⟨#[]⟩ : ByteArray), 3)) else (gafferref01_TakeNumber.l0 k x0 x5 0 1))
def gafferref01_TakeNumber.l0 : Nat → ByteArray → Int → Int → Int → Option (Int × ByteArray × Int)
 | 0, _, _, _, _ => none
 | k + 1, x0, x5, x6, x7 => if x7 ≤ x5 then (if 0 ≤ x7 then (if x7 < (x0.size : Int) then (gafferref01_TakeNumber.l0 k x0 x5 (IntKind.u64.wrap ((IntKind.u64.wrap (256 * x6)) + (IntKind.u64.wrap (bt x0 x7)))) (wrap64 (x7 + 1))) else (none)) else (none)) else (if 0 ≤ (wrap64 (x5 + 1)) then (if (wrap64 (x5 + 1)) ≤ (x0.size : Int) then (some (x6, x0.extract ((wrap64 (x5 + 1)) : Int).toNat x0.size, 0)) else (none)) else (none))
end
def gafferref01_TakeNumber.f (k : Nat) (a0 : ByteArray) : Option (Int × ByteArray × Int) := if a0.toList = ([] : List UInt8) then (some (0, (⟨#[]⟩ : ByteArray), 3)) else (if 0 < (a0.size : Int) then (if (wrap64 (bt a0 0)) > 8 then (some (0, (⟨#[]⟩ : ByteArray), 4)) else (if (wrap64 (bt a0 0)) > 0 then (if (a0.size : Int) > 1 then (if 1 < (a0.size : Int) then (gafferref01_TakeNumber.j0 k a0 (wrap64 (bt a0 0)) ((bt a0 1) == 0)) else (none)) else (gafferref01_TakeNumber.j0 k a0 (wrap64 (bt a0 0)) false)) else (gafferref01_TakeNumber.j0 k a0 (wrap64 (bt a0 0)) false))) else (none))
theorem gafferref01_TakeNumber.mono_l : ∀ k, (∀ y0 y1 y2, LeO (gafferref01_TakeNumber.j0 k y0 y1 y2) (gafferref01_TakeNumber.j0 (k + 1) y0 y1 y2)) ∧ (∀ y0 y1 y2 y3, LeO (gafferref01_TakeNumber.l0 k y0 y1 y2 y3) (gafferref01_TakeNumber.l0 (k + 1) y0 y1 y2 y3))
 | 0 => ⟨fun _ _ _ r h => by simp [gafferref01_TakeNumber.j0] at h, fun _ _ _ _ r h => by simp [gafferref01_TakeNumber.l0] at h⟩
 | k + 1 => by
  obtain ⟨ih0, ih1⟩ := gafferref01_TakeNumber.mono_l k
  refine ⟨?_, ?_⟩
  ·intro y0 y1 y2
   unfold gafferref01_TakeNumber.j0
   repeat' first
   | (with_reducible exact ih0 _ _ _)
   | (with_reducible exact ih1 _ _ _ _)
   | (with_reducible exact LeO.refl _)
   | (with_reducible exact LeO.none _)
   | (with_reducible refine LeO.ite ?_ ?_)
   | (with_reducible refine LeO.bind ?_ (fun _ => ?_))
   | exact ih0 _ _ _
   | exact ih1 _ _ _ _
   | exact LeO.none _
   | refine LeO.ite ?_ ?_
   | refine LeO.bind ?_ (fun _ => ?_)
  ·intro y0 y1 y2 y3
   unfold gafferref01_TakeNumber.l0
   repeat' first
   | (with_reducible exact ih0 _ _ _)
   | (with_reducible exact ih1 _ _ _ _)
   | (with_reducible exact LeO.refl _)
   | (with_reducible exact LeO.none _)
   | (with_reducible refine LeO.ite ?_ ?_)
   | (with_reducible refine LeO.bind ?_ (fun _ => ?_))
   | exact ih0 _ _ _
   | exact ih1 _ _ _ _
   | exact LeO.none _
   | refine LeO.ite ?_ ?_
   | refine LeO.bind ?_ (fun _ => ?_)
theorem gafferref01_TakeNumber.mono : ∀ a0 k, LeO (gafferref01_TakeNumber.f k a0) (gafferref01_TakeNumber.f (k + 1) a0) := by
 intro a0 k
 obtain ⟨ih0, ih1⟩ := gafferref01_TakeNumber.mono_l k
 unfold gafferref01_TakeNumber.f
 repeat' first
   | (with_reducible exact ih0 _ _ _)
   | (with_reducible exact ih1 _ _ _ _)
   | (with_reducible exact LeO.refl _)
   | (with_reducible exact LeO.none _)
   | (with_reducible refine LeO.ite ?_ ?_)
   | (with_reducible refine LeO.bind ?_ (fun _ => ?_))
   | exact ih0 _ _ _
   | exact ih1 _ _ _ _
   | exact LeO.none _
   | refine LeO.ite ?_ ?_
   | refine LeO.bind ?_ (fun _ => ?_)
set_option maxHeartbeats 80000000 in
set_option maxRecDepth 100000 in
theorem gafferref01_TakeNumber.calls (k : Nat) (a0 : ByteArray) (r1 : Int) (r2 : ByteArray) (r3 : Int) (w : World) (h : gafferref01_TakeNumber.f k a0 = some (r1, r2, r3)) :
  Calls Try.prog 24 #[.string a0] w fun e w' => e = .returned (.tuple #[.int .u64 r1, .string r2, .int .i64 r3]) ∧ Drawn0 w w' := by
 have H : (if a0.toList = ([] : List UInt8) then (some (0, (⟨#[]⟩ : ByteArray), 3)) else (if 0 < (a0.size : Int) then (if (wrap64 (bt a0 0)) > 8 then (some (0, (⟨#[]⟩ : ByteArray), 4)) else (if (wrap64 (bt a0 0)) > 0 then (if (a0.size : Int) > 1 then (if 1 < (a0.size : Int) then (gafferref01_TakeNumber.j0 k a0 (wrap64 (bt a0 0)) ((bt a0 1) == 0)) else (none)) else (gafferref01_TakeNumber.j0 k a0 (wrap64 (bt a0 0)) false)) else (gafferref01_TakeNumber.j0 k a0 (wrap64 (bt a0 0)) false))) else (none))) = some (r1, r2, r3) := h
 clear h
 by_cases c2 : a0.toList = ([] : List UInt8)
 ·rw [if_pos c2] at H
  have c2b0 : (a0.toList == ([] : List UInt8)) = true := beq_iff_eq.mpr c2
  have c2b1 : (a0.toList != ([] : List UInt8)) = false := bne_eq_false_iff_eq.mpr c2
  clear c2
  simp only [Option.some.injEq, Prod.mk.injEq] at H
  obtain ⟨rfl, rfl, rfl⟩ := H
  go_enter Try.func24, Try.ntmps24
  go_wp2
  repeat (go_quiet (fail); try go_wp2)
  go_ret3
  exact ⟨by first | rfl | (simp; done) | (simp [*]; done), dr_⟩
 ·rw [if_neg c2] at H
  have c2b0 : (a0.toList == ([] : List UInt8)) = false := beq_eq_false_iff_ne.mpr c2
  have c2b1 : (a0.toList != ([] : List UInt8)) = true := bne_iff_ne.mpr c2
  by_cases c3 : 0 < (a0.size : Int)
  ·rw [if_pos c3] at H
   have c3b0 : decide (0 < (a0.size : Int)) = true := decide_eq_true c3
   have c3b1 : decide (0 < a0.size) = true := decide_eq_true (by omega)
   clear c3
   by_cases c5 : (wrap64 (bt a0 0)) > 8
   ·rw [if_pos c5] at H
    have c5b0 : decide (8 < (wrap64 (bt a0 0))) = true := decide_eq_true c5
    clear c5
    simp only [Option.some.injEq, Prod.mk.injEq] at H
    obtain ⟨rfl, rfl, rfl⟩ := H
    have p4 : 0 ≤ (0 : Int) := (by omega)
    have q4 : 0 < a0.size := (by have : (0 : Int) < (a0.size : Int) := of_decide_eq_true (by first | (with_reducible assumption) | assumption); omega)
    have hx4 : ∀ h : 0 < a0.size, ((a0[0]'h).toNat : Int) = bt a0 0 := bt_at a0 0
    clear p4
    have qi4 : (0 < (a0.size : Int)) = True := eq_true (of_decide_eq_true (by first | (with_reducible assumption) | assumption))
    replace q4 := eq_true q4
    go_enter Try.func24, Try.ntmps24
    go_wp2
    repeat (go_quiet (fail); try go_wp2)
    go_ret3
    exact ⟨by first | rfl | (simp; done) | (simp [*]; done), dr_⟩
   ·rw [if_neg c5] at H
    have c5b0 : decide (8 < (wrap64 (bt a0 0))) = false := decide_eq_false c5
    clear c5
    have HC6 := Aside0.mk H
    clear H
    have p4 : 0 ≤ (0 : Int) := (by omega)
    have q4 : 0 < a0.size := (by have : (0 : Int) < (a0.size : Int) := of_decide_eq_true (by first | (with_reducible assumption) | assumption); omega)
    have hx4 : ∀ h : 0 < a0.size, ((a0[0]'h).toNat : Int) = bt a0 0 := bt_at a0 0
    clear p4
    have qi4 : (0 < (a0.size : Int)) = True := eq_true (of_decide_eq_true (by first | (with_reducible assumption) | assumption))
    replace q4 := eq_true q4
    go_enter Try.func24, Try.ntmps24
    go_upto_region 6 with (fail)
    repeat (go_quiet (fail); go_upto_region 6 with (fail))
    go_cut [26] (fun v26 wc => ∃ (kq : Nat) (x26_5 : Bool), v26 = .bool x26_5 ∧ Aside0 (gafferref01_TakeNumber.j0 kq a0 (wrap64 (bt a0 0)) x26_5 = some (r1, r2, r3)) ∧ Aside0 (kq ≤ k) ∧ Drawn0 w wc)
    case first =>
     have H := HC6.out
     clear HC6
     by_cases c7 : (wrap64 (bt a0 0)) > 0
     ·rw [if_pos c7] at H
      have c7b0 : decide (0 < (wrap64 (bt a0 0))) = true := decide_eq_true c7
      clear c7
      (first | rw [c7b0] | (simp only [i64_w, i32_w]; rw [c7b0]) | skip)
      by_cases c8 : (a0.size : Int) > 1
      ·rw [if_pos c8] at H
       have c8b0 : decide (1 < (a0.size : Int)) = true := decide_eq_true c8
       have c8b1 : decide (1 < a0.size) = true := decide_eq_true (by omega)
       clear c8
       by_cases c9 : 1 < (a0.size : Int)
       ·rw [if_pos c9] at H
        have c9b0 : decide (1 < (a0.size : Int)) = true := decide_eq_true c9
        have c9b1 : decide (1 < a0.size) = true := decide_eq_true (by omega)
        clear c9
        have H' := Aside0.mk H
        clear H
        have p10 : 0 ≤ (1 : Int) := (by omega)
        have q10 : 1 < a0.size := (by have : (1 : Int) < (a0.size : Int) := of_decide_eq_true (by first | (with_reducible assumption) | assumption); omega)
        have hx10 : ∀ h : 1 < a0.size, ((a0[1]'h).toNat : Int) = bt a0 1 := bt_at a0 1
        clear p10
        have qi10 : (1 < (a0.size : Int)) = True := eq_true (of_decide_eq_true (by first | (with_reducible assumption) | assumption))
        replace q10 := eq_true q10
        go_wp2
        repeat (go_quiet (fail); try go_wp2)
        go_meet
        case rel => exact ⟨_, (((bt a0 1) == 0)), (by first | rfl | (simp; done) | (simp [*]; done)), H', ⟨by first | omega | exact Nat.le_refl _⟩, dr_⟩
       ·rw [if_neg c9] at H
        exact absurd H (by simp)
      ·rw [if_neg c8] at H
       have c8b0 : decide (1 < (a0.size : Int)) = false := decide_eq_false c8
       have c8b1 : decide (1 < a0.size) = false := decide_eq_false (by omega)
       clear c8
       have H' := Aside0.mk H
       clear H
       go_wp2
       repeat (go_quiet (fail); try go_wp2)
       go_meet
       case rel => exact ⟨_, (false), (by first | rfl | (simp; done) | (simp [*]; done)), H', ⟨by first | omega | exact Nat.le_refl _⟩, dr_⟩
     ·rw [if_neg c7] at H
      have c7b0 : decide (0 < (wrap64 (bt a0 0))) = false := decide_eq_false c7
      clear c7
      (first | rw [c7b0] | (simp only [i64_w, i32_w]; rw [c7b0]) | skip)
      have H' := Aside0.mk H
      clear H
      go_wp2
      repeat (go_quiet (fail); try go_wp2)
      go_meet
      case rel => exact ⟨_, (false), (by first | rfl | (simp; done) | (simp [*]; done)), H', ⟨by first | omega | exact Nat.le_refl _⟩, dr_⟩
    case rest =>
     clear HC6
     try clear p1
     try clear q1
     try clear hx1
     try clear qi1
     try clear c2
     try clear c2b0
     try clear c2b1
     try clear p2
     try clear c3
     try clear c3b0
     try clear c3b1
     try clear p4
     try clear q4
     try clear hx4
     try clear qi4
     try clear c5
     try clear c5b0
     try clear p6
     try clear c7
     try clear c7b0
     try clear c8
     try clear c8b0
     try clear c8b1
     try clear c9
     try clear c9b0
     try clear c9b1
     try clear p10
     try clear q10
     try clear hx10
     try clear qi10
     try clear p10
     try clear p4
     try clear q10
     try clear q4
     obtain ⟨kq, x26_5, rfl, HA, HJ5, ⟨mc5, rfl⟩⟩ := hcut
     cases kq with
     | zero => exact absurd HA.out (by simp [gafferref01_TakeNumber.j0])
     | succ kj5 =>
      have H := HA.out
      clear HA
      simp only [gafferref01_TakeNumber.j0] at H
      by_cases c11 : x26_5 = true
      ·subst c11
       have H1 : (some (0, (⟨#[]⟩ : ByteArray), 4)) = some (r1, r2, r3) := by rw [if_pos rfl] at H; exact H
       clear H
       have H := H1
       clear H1
       simp only [Option.some.injEq, Prod.mk.injEq] at H
       obtain ⟨rfl, rfl, rfl⟩ := H
       go_wp2
       repeat (go_quiet (fail); try go_wp2)
       go_ret3
       exact ⟨by first | rfl | (simp; done) | (simp [*]; done), dr_⟩
      ·replace c11 := Bool.eq_false_iff.mpr c11
       subst c11
       have H1 : (if (a0.size : Int) < (wrap64 ((wrap64 (bt a0 0)) + 1)) then (some (0, (⟨#[]⟩ : ByteArray), 3)) else (gafferref01_TakeNumber.l0 kj5 a0 (wrap64 (bt a0 0)) 0 1)) = some (r1, r2, r3) := by rw [if_neg (show ¬ (false = true) by decide)] at H; exact H
       clear H
       have H := H1
       clear H1
       by_cases c12 : (a0.size : Int) < (wrap64 ((wrap64 (bt a0 0)) + 1))
       ·rw [if_pos c12] at H
        have c12b0 : decide ((a0.size : Int) < (wrap64 ((wrap64 (bt a0 0)) + 1))) = true := decide_eq_true c12
        clear c12
        simp only [Option.some.injEq, Prod.mk.injEq] at H
        obtain ⟨rfl, rfl, rfl⟩ := H
        go_wp2
        repeat (go_quiet (fail); try go_wp2)
        go_ret3
        exact ⟨by first | rfl | (simp; done) | (simp [*]; done), dr_⟩
       ·rw [if_neg c12] at H
        have c12b0 : decide ((a0.size : Int) < (wrap64 ((wrap64 (bt a0 0)) + 1))) = false := decide_eq_false c12
        clear c12
        have H' := Aside0.mk H
        clear H
        go_wp2
        repeat (go_quiet (fail); try go_wp2)
        go_loopg [6, 7] kj5 (fun kq v6 v7 w' => ∃ (x6_2 : Int) (x7_2 : Int), v6 = .int .u64 x6_2 ∧ v7 = .int .i64 x7_2 ∧ Aside0 (gafferref01_TakeNumber.l0 kq a0 (wrap64 (bt a0 0)) x6_2 x7_2 = some (r1, r2, r3)) ∧ Aside0 (kq ≤ kj5) ∧ Drawn0 w w')
        case atStart => exact ⟨(0), (1), (by first | rfl | (simp; done) | (simp [*]; done)), (by first | rfl | (simp; done) | (simp [*]; done)), H', ⟨Nat.le_refl _⟩, dr_⟩
        case round =>
         clear H'
         try clear c1
         try clear p1
         try clear q1
         try clear hx1
         try clear qi1
         try clear c2
         try clear c2b0
         try clear c2b1
         try clear p2
         try clear c3
         try clear c3b0
         try clear c3b1
         try clear p4
         try clear q4
         try clear hx4
         try clear qi4
         try clear c5
         try clear c5b0
         try clear p6
         try clear c7
         try clear c7b0
         try clear c8
         try clear c8b0
         try clear c8b1
         try clear c9
         try clear c9b0
         try clear c9b1
         try clear p10
         try clear q10
         try clear hx10
         try clear qi10
         try clear c11
         try clear c12
         try clear c12b0
         try clear p1
         try clear p10
         try clear p2
         try clear p4
         try clear p6
         try clear q1
         try clear q10
         try clear q4
         obtain ⟨x6_2, x7_2, rfl, rfl, HA, HK2, ⟨m2, rfl⟩⟩ := hrel
         cases gk with
         | zero => exact absurd HA.out (by simp [gafferref01_TakeNumber.l0])
         | succ k2 =>
          have H := HA.out
          clear HA
          simp only [gafferref01_TakeNumber.l0] at H
          by_cases c13 : x7_2 ≤ (wrap64 (bt a0 0))
          ·rw [if_pos c13] at H
           have c13b0 : decide (x7_2 ≤ (wrap64 (bt a0 0))) = true := decide_eq_true c13
           clear c13
           by_cases c14 : 0 ≤ x7_2
           ·rw [if_pos c14] at H
            have c14b0 : decide (0 ≤ x7_2) = true := decide_eq_true c14
            clear c14
            by_cases c15 : x7_2 < (a0.size : Int)
            ·rw [if_pos c15] at H
             have c15b0 : decide (x7_2 < (a0.size : Int)) = true := decide_eq_true c15
             clear c15
             have H' := Aside0.mk H
             clear H
             have p16 : 0 ≤ (x7_2 : Int) := of_decide_eq_true (by first | (with_reducible assumption) | assumption)
             have q16 : x7_2 < (a0.size : Int) := of_decide_eq_true (by first | (with_reducible assumption) | assumption)
             have hx16 := bt_at a0 x7_2
             replace p16 := eq_true p16
             replace q16 := eq_true q16
             go_wp2
             repeat (go_quiet (fail); try go_wp2)
             go_roundg k2
             case measure => have := HJ5.out; have := HK2.out; omega
             case rel => exact ⟨(IntKind.u64.wrap ((IntKind.u64.wrap (256 * x6_2)) + (IntKind.u64.wrap (bt a0 x7_2)))), (wrap64 (x7_2 + 1)), (by first | rfl | (simp; done) | (simp [*]; done)), (by first | rfl | (simp; done) | (simp [*]; done)), H', ⟨by have := HJ5.out; have := HK2.out; omega⟩, dr_⟩
            ·rw [if_neg c15] at H
             exact absurd H (by simp)
           ·rw [if_neg c14] at H
            exact absurd H (by simp)
          ·rw [if_neg c13] at H
           have c13b0 : decide (x7_2 ≤ (wrap64 (bt a0 0))) = false := decide_eq_false c13
           clear c13
           obtain ⟨ji17, hji17⟩ : ∃ j_ : Int, (wrap64 ((wrap64 (bt a0 0)) + 1)) = j_ := ⟨_, rfl⟩
           replace H : (if 0 ≤ (ji17) then (if (ji17) ≤ (a0.size : Int) then (some (x6_2, a0.extract ((ji17) : Int).toNat a0.size, 0)) else (none)) else (none)) = some (r1, r2, r3) := by first | (rw [hji17] at H; exact H) | (simp only [hji17] at H ⊢; exact H)
           (try rw [hji17] at c12b0)
           have hji17w : (IntKind.i64.wrap ((wrap64 (bt a0 0)) + 1)) = ji17 := (i64_w _).trans hji17
           by_cases c18 : 0 ≤ (ji17)
           ·rw [if_pos c18] at H
            have c18b0 := eq_true c18
            have c18b1 : decide (0 ≤ (ji17)) = true := decide_eq_true c18
            clear c18
            by_cases c19 : (ji17) ≤ (a0.size : Int)
            ·rw [if_pos c19] at H
             have c19b0 := eq_true c19
             have c19b1 : decide ((ji17) ≤ (a0.size : Int)) = true := decide_eq_true c19
             clear c19
             simp only [Option.some.injEq, Prod.mk.injEq] at H
             obtain ⟨rfl, rfl, rfl⟩ := H
             go_wp2
             repeat (go_quiet (fail); try go_wp2)
             go_ret3
             exact ⟨by first | rfl | (simp; done) | (simp only [← hji17] <;> (first | rfl | simp)) | (simp [*]; done), dr_⟩
            ·rw [if_neg c19] at H
             exact absurd H (by simp)
           ·rw [if_neg c18] at H
            exact absurd H (by simp)
  ·rw [if_neg c3] at H
   exact absurd H (by simp)

/-! ### gafferref01_TakeText: function 22 -/
def gafferref01_TakeText.f (k : Nat) (a0 : ByteArray) : Option (ByteArray × ByteArray × Int) := (gafferref01_TakeNumber.f k a0).bind fun bt138 => (if bt138.2.2 = 0 then (if bt138.1 > 65536 then (some ((⟨#[]⟩ : ByteArray), (⟨#[]⟩ : ByteArray), 2)) else (if (wrap64 (bt138.1)) > (bt138.2.1.size : Int) then (some ((⟨#[]⟩ : ByteArray), (⟨#[]⟩ : ByteArray), 3)) else (if 0 ≤ bt138.1 then (if bt138.1 ≤ (bt138.2.1.size : Int) then (some (bt138.2.1.extract 0 (bt138.1 : Int).toNat, bt138.2.1.extract (bt138.1 : Int).toNat bt138.2.1.size, 0)) else (none)) else (none)))) else (some ((⟨#[]⟩ : ByteArray), (⟨#[]⟩ : ByteArray), bt138.2.2)))
theorem gafferref01_TakeText.mono : ∀ a0 k, LeO (gafferref01_TakeText.f k a0) (gafferref01_TakeText.f (k + 1) a0) := by
 intro a0 k
 unfold gafferref01_TakeText.f
 repeat' first
   | (with_reducible exact gafferref01_TakeNumber.mono _ _)
   | (with_reducible exact LeO.refl _)
   | (with_reducible exact LeO.none _)
   | (with_reducible refine LeO.ite ?_ ?_)
   | (with_reducible refine LeO.bind ?_ (fun _ => ?_))
   | exact gafferref01_TakeNumber.mono _ _
   | exact LeO.none _
   | refine LeO.ite ?_ ?_
   | refine LeO.bind ?_ (fun _ => ?_)
set_option maxHeartbeats 80000000 in
set_option maxRecDepth 100000 in
theorem gafferref01_TakeText.calls (k : Nat) (a0 : ByteArray) (r1 : ByteArray) (r2 : ByteArray) (r3 : Int) (w : World) (h : gafferref01_TakeText.f k a0 = some (r1, r2, r3)) :
  Calls Try.prog 22 #[.string a0] w fun e w' => e = .returned (.tuple #[.string r1, .string r2, .int .i64 r3]) ∧ Drawn0 w w' := by
 have H : ((gafferref01_TakeNumber.f k a0).bind fun bt138 => (if bt138.2.2 = 0 then (if bt138.1 > 65536 then (some ((⟨#[]⟩ : ByteArray), (⟨#[]⟩ : ByteArray), 2)) else (if (wrap64 (bt138.1)) > (bt138.2.1.size : Int) then (some ((⟨#[]⟩ : ByteArray), (⟨#[]⟩ : ByteArray), 3)) else (if 0 ≤ bt138.1 then (if bt138.1 ≤ (bt138.2.1.size : Int) then (some (bt138.2.1.extract 0 (bt138.1 : Int).toNat, bt138.2.1.extract (bt138.1 : Int).toNat bt138.2.1.size, 0)) else (none)) else (none)))) else (some ((⟨#[]⟩ : ByteArray), (⟨#[]⟩ : ByteArray), bt138.2.2)))) = some (r1, r2, r3) := h
 clear h
 replace H := Option.bind_eq_some_iff.mp H
 obtain ⟨⟨t138, t139, t140⟩, A20, H⟩ := H
 replace H : (if t140 = 0 then (if t138 > 65536 then (some ((⟨#[]⟩ : ByteArray), (⟨#[]⟩ : ByteArray), 2)) else (if (wrap64 (t138)) > (t139.size : Int) then (some ((⟨#[]⟩ : ByteArray), (⟨#[]⟩ : ByteArray), 3)) else (if 0 ≤ t138 then (if t138 ≤ (t139.size : Int) then (some (t139.extract 0 (t138 : Int).toNat, t139.extract (t138 : Int).toNat t139.size, 0)) else (none)) else (none)))) else (some ((⟨#[]⟩ : ByteArray), (⟨#[]⟩ : ByteArray), t140))) = some (r1, r2, r3) := H
 have A2 := Aside0.mk A20
 clear A20
 by_cases c3 : t140 = 0
 ·rw [if_pos c3] at H
  have c3b0 : (t140 == 0) = true := beq_iff_eq.mpr c3
  have c3b1 : (t140 != 0) = false := bne_eq_false_iff_eq.mpr c3
  clear c3
  by_cases c4 : t138 > 65536
  ·rw [if_pos c4] at H
   have c4b0 : decide (65536 < t138) = true := decide_eq_true c4
   clear c4
   simp only [Option.some.injEq, Prod.mk.injEq] at H
   obtain ⟨rfl, rfl, rfl⟩ := H
   go_enter Try.func22, Try.ntmps22
   go_wp2_with (first | (go_at_call 24; (with_reducible refine (gafferref01_TakeNumber.calls k a0 t138 t139 t140 _ A2.out).mono ?_); rintro e w' ⟨rfl, ⟨nd, rfl⟩⟩; (try first | exact ⟨rfl, _, World.drewN_drewN _ _ _⟩ | exact ⟨rfl, _, Eq.trans (World.drewN_drewN _ _ _) (congrArg (World.drewN _) (Nat.add_assoc _ _ _))⟩)))
   repeat (go_quiet (first | (go_at_call 24; (with_reducible refine (gafferref01_TakeNumber.calls k a0 t138 t139 t140 _ A2.out).mono ?_); rintro e w' ⟨rfl, ⟨nd, rfl⟩⟩; (try first | exact ⟨rfl, _, World.drewN_drewN _ _ _⟩ | exact ⟨rfl, _, Eq.trans (World.drewN_drewN _ _ _) (congrArg (World.drewN _) (Nat.add_assoc _ _ _))⟩))); try go_wp2_with (first | (go_at_call 24; (with_reducible refine (gafferref01_TakeNumber.calls k a0 t138 t139 t140 _ A2.out).mono ?_); rintro e w' ⟨rfl, ⟨nd, rfl⟩⟩; (try first | exact ⟨rfl, _, World.drewN_drewN _ _ _⟩ | exact ⟨rfl, _, Eq.trans (World.drewN_drewN _ _ _) (congrArg (World.drewN _) (Nat.add_assoc _ _ _))⟩))))
   go_ret3
   exact ⟨by first | rfl | (simp; done) | (simp [*]; done), dr_⟩
  ·rw [if_neg c4] at H
   have c4b0 : decide (65536 < t138) = false := decide_eq_false c4
   clear c4
   by_cases c5 : (wrap64 (t138)) > (t139.size : Int)
   ·rw [if_pos c5] at H
    have c5b0 : decide ((t139.size : Int) < (wrap64 (t138))) = true := decide_eq_true c5
    clear c5
    simp only [Option.some.injEq, Prod.mk.injEq] at H
    obtain ⟨rfl, rfl, rfl⟩ := H
    go_enter Try.func22, Try.ntmps22
    go_wp2_with (first | (go_at_call 24; (with_reducible refine (gafferref01_TakeNumber.calls k a0 t138 t139 t140 _ A2.out).mono ?_); rintro e w' ⟨rfl, ⟨nd, rfl⟩⟩; (try first | exact ⟨rfl, _, World.drewN_drewN _ _ _⟩ | exact ⟨rfl, _, Eq.trans (World.drewN_drewN _ _ _) (congrArg (World.drewN _) (Nat.add_assoc _ _ _))⟩)))
    repeat (go_quiet (first | (go_at_call 24; (with_reducible refine (gafferref01_TakeNumber.calls k a0 t138 t139 t140 _ A2.out).mono ?_); rintro e w' ⟨rfl, ⟨nd, rfl⟩⟩; (try first | exact ⟨rfl, _, World.drewN_drewN _ _ _⟩ | exact ⟨rfl, _, Eq.trans (World.drewN_drewN _ _ _) (congrArg (World.drewN _) (Nat.add_assoc _ _ _))⟩))); try go_wp2_with (first | (go_at_call 24; (with_reducible refine (gafferref01_TakeNumber.calls k a0 t138 t139 t140 _ A2.out).mono ?_); rintro e w' ⟨rfl, ⟨nd, rfl⟩⟩; (try first | exact ⟨rfl, _, World.drewN_drewN _ _ _⟩ | exact ⟨rfl, _, Eq.trans (World.drewN_drewN _ _ _) (congrArg (World.drewN _) (Nat.add_assoc _ _ _))⟩))))
    go_ret3
    exact ⟨by first | rfl | (simp; done) | (simp [*]; done), dr_⟩
   ·rw [if_neg c5] at H
    have c5b0 : decide ((t139.size : Int) < (wrap64 (t138))) = false := decide_eq_false c5
    clear c5
    by_cases c6 : 0 ≤ t138
    ·rw [if_pos c6] at H
     have c6b0 := eq_true c6
     have c6b1 : decide (0 ≤ t138) = true := decide_eq_true c6
     clear c6
     by_cases c7 : t138 ≤ (t139.size : Int)
     ·rw [if_pos c7] at H
      have c7b0 := eq_true c7
      have c7b1 : decide (t138 ≤ (t139.size : Int)) = true := decide_eq_true c7
      clear c7
      have c8b0 := eq_true (of_decide_eq_true (by first | (with_reducible assumption) | assumption) : 0 ≤ t138)
      have c9b0 := eq_true (of_decide_eq_true (by first | (with_reducible assumption) | assumption) : t138 ≤ (t139.size : Int))
      simp only [Option.some.injEq, Prod.mk.injEq] at H
      obtain ⟨rfl, rfl, rfl⟩ := H
      go_enter Try.func22, Try.ntmps22
      go_wp2_with (first | (go_at_call 24; (with_reducible refine (gafferref01_TakeNumber.calls k a0 t138 t139 t140 _ A2.out).mono ?_); rintro e w' ⟨rfl, ⟨nd, rfl⟩⟩; (try first | exact ⟨rfl, _, World.drewN_drewN _ _ _⟩ | exact ⟨rfl, _, Eq.trans (World.drewN_drewN _ _ _) (congrArg (World.drewN _) (Nat.add_assoc _ _ _))⟩)))
      repeat (go_quiet (first | (go_at_call 24; (with_reducible refine (gafferref01_TakeNumber.calls k a0 t138 t139 t140 _ A2.out).mono ?_); rintro e w' ⟨rfl, ⟨nd, rfl⟩⟩; (try first | exact ⟨rfl, _, World.drewN_drewN _ _ _⟩ | exact ⟨rfl, _, Eq.trans (World.drewN_drewN _ _ _) (congrArg (World.drewN _) (Nat.add_assoc _ _ _))⟩))); try go_wp2_with (first | (go_at_call 24; (with_reducible refine (gafferref01_TakeNumber.calls k a0 t138 t139 t140 _ A2.out).mono ?_); rintro e w' ⟨rfl, ⟨nd, rfl⟩⟩; (try first | exact ⟨rfl, _, World.drewN_drewN _ _ _⟩ | exact ⟨rfl, _, Eq.trans (World.drewN_drewN _ _ _) (congrArg (World.drewN _) (Nat.add_assoc _ _ _))⟩))))
      go_ret3
      exact ⟨by first | rfl | (simp; done) | (simp [*]; done), dr_⟩
     ·rw [if_neg c7] at H
      exact absurd H (by simp)
    ·rw [if_neg c6] at H
     exact absurd H (by simp)
 ·rw [if_neg c3] at H
  have c3b0 : (t140 == 0) = false := beq_eq_false_iff_ne.mpr c3
  have c3b1 : (t140 != 0) = true := bne_iff_ne.mpr c3
  simp only [Option.some.injEq, Prod.mk.injEq] at H
  obtain ⟨rfl, rfl, rfl⟩ := H
  go_enter Try.func22, Try.ntmps22
  go_wp2_with (first | (go_at_call 24; (with_reducible refine (gafferref01_TakeNumber.calls k a0 t138 t139 t140 _ A2.out).mono ?_); rintro e w' ⟨rfl, ⟨nd, rfl⟩⟩; (try first | exact ⟨rfl, _, World.drewN_drewN _ _ _⟩ | exact ⟨rfl, _, Eq.trans (World.drewN_drewN _ _ _) (congrArg (World.drewN _) (Nat.add_assoc _ _ _))⟩)))
  repeat (go_quiet (first | (go_at_call 24; (with_reducible refine (gafferref01_TakeNumber.calls k a0 t138 t139 t140 _ A2.out).mono ?_); rintro e w' ⟨rfl, ⟨nd, rfl⟩⟩; (try first | exact ⟨rfl, _, World.drewN_drewN _ _ _⟩ | exact ⟨rfl, _, Eq.trans (World.drewN_drewN _ _ _) (congrArg (World.drewN _) (Nat.add_assoc _ _ _))⟩))); try go_wp2_with (first | (go_at_call 24; (with_reducible refine (gafferref01_TakeNumber.calls k a0 t138 t139 t140 _ A2.out).mono ?_); rintro e w' ⟨rfl, ⟨nd, rfl⟩⟩; (try first | exact ⟨rfl, _, World.drewN_drewN _ _ _⟩ | exact ⟨rfl, _, Eq.trans (World.drewN_drewN _ _ _) (congrArg (World.drewN _) (Nat.add_assoc _ _ _))⟩))))
  go_ret3
  exact ⟨by first | rfl | (simp; done) | (simp [*]; done), dr_⟩

/-! ### gafferlaw01_PackTexts: function 6 -/
def gafferlaw01_PackTexts.f (k : Nat) (a0 : ByteArray) : Option (Bool) := (pack_TakeText.f k a0).bind fun bt141 => ((gafferref01_TakeText.f k a0).bind fun bt144 => ((pack_TakeText.f k (⟨#[1, 1, 120, 121]⟩ : ByteArray)).bind fun bt147 => (if bt147.1.toList = ([120] : List UInt8) then (if bt147.2.1.toList = ([121] : List UInt8) then (if bt147.2.2 = 0 then (if bt141.1.toList = bt144.1.toList then (if bt141.2.1.toList = bt144.2.1.toList then (some (bt141.2.2 == bt144.2.2)) else (some false)) else (some false)) else (some false)) else (some false)) else (some false))))
theorem gafferlaw01_PackTexts.mono : ∀ a0 k, LeO (gafferlaw01_PackTexts.f k a0) (gafferlaw01_PackTexts.f (k + 1) a0) := by
 intro a0 k
 unfold gafferlaw01_PackTexts.f
 repeat' first
   | (with_reducible exact gafferref01_TakeText.mono _ _)
   | (with_reducible exact pack_TakeText.mono _ _)
   | (with_reducible exact LeO.refl _)
   | (with_reducible exact LeO.none _)
   | (with_reducible refine LeO.ite ?_ ?_)
   | (with_reducible refine LeO.bind ?_ (fun _ => ?_))
   | exact gafferref01_TakeText.mono _ _
   | exact pack_TakeText.mono _ _
   | exact LeO.none _
   | refine LeO.ite ?_ ?_
   | refine LeO.bind ?_ (fun _ => ?_)
set_option maxHeartbeats 80000000 in
set_option maxRecDepth 100000 in
theorem gafferlaw01_PackTexts.calls (k : Nat) (a0 : ByteArray) (r : Bool) (w : World) (h : gafferlaw01_PackTexts.f k a0 = some r) (hr : r = true) :
  Calls Try.prog 6 #[.string a0] w fun e w' => e = .returned (.bool r) ∧ Drawn0 w w' := by
 have H : ((pack_TakeText.f k a0).bind fun bt141 => ((gafferref01_TakeText.f k a0).bind fun bt144 => ((pack_TakeText.f k (⟨#[1, 1, 120, 121]⟩ : ByteArray)).bind fun bt147 => (if bt147.1.toList = ([120] : List UInt8) then (if bt147.2.1.toList = ([121] : List UInt8) then (if bt147.2.2 = 0 then (if bt141.1.toList = bt144.1.toList then (if bt141.2.1.toList = bt144.2.1.toList then (some (bt141.2.2 == bt144.2.2)) else (some false)) else (some false)) else (some false)) else (some false)) else (some false))))) = some r := h
 clear h
 replace H := Option.bind_eq_some_iff.mp H
 obtain ⟨⟨t141, t142, t143⟩, A20, H⟩ := H
 replace H : ((gafferref01_TakeText.f k a0).bind fun bt144 => ((pack_TakeText.f k (⟨#[1, 1, 120, 121]⟩ : ByteArray)).bind fun bt147 => (if bt147.1.toList = ([120] : List UInt8) then (if bt147.2.1.toList = ([121] : List UInt8) then (if bt147.2.2 = 0 then (if t141.toList = bt144.1.toList then (if t142.toList = bt144.2.1.toList then (some (t143 == bt144.2.2)) else (some false)) else (some false)) else (some false)) else (some false)) else (some false)))) = some r := H
 have A2 := Aside0.mk A20
 clear A20
 replace H := Option.bind_eq_some_iff.mp H
 obtain ⟨⟨t144, t145, t146⟩, A30, H⟩ := H
 replace H : ((pack_TakeText.f k (⟨#[1, 1, 120, 121]⟩ : ByteArray)).bind fun bt147 => (if bt147.1.toList = ([120] : List UInt8) then (if bt147.2.1.toList = ([121] : List UInt8) then (if bt147.2.2 = 0 then (if t141.toList = t144.toList then (if t142.toList = t145.toList then (some (t143 == t146)) else (some false)) else (some false)) else (some false)) else (some false)) else (some false))) = some r := H
 have A3 := Aside0.mk A30
 clear A30
 replace H := Option.bind_eq_some_iff.mp H
 obtain ⟨⟨t147, t148, t149⟩, A40, H⟩ := H
 replace H : (if t147.toList = ([120] : List UInt8) then (if t148.toList = ([121] : List UInt8) then (if t149 = 0 then (if t141.toList = t144.toList then (if t142.toList = t145.toList then (some (t143 == t146)) else (some false)) else (some false)) else (some false)) else (some false)) else (some false)) = some r := H
 have A4 := Aside0.mk A40
 clear A40
 by_cases c5 : t147.toList = ([120] : List UInt8)
 ·rw [if_pos c5] at H
  have c5b0 : (t147.toList == ([120] : List UInt8)) = true := beq_iff_eq.mpr c5
  have c5b1 : (t147.toList != ([120] : List UInt8)) = false := bne_eq_false_iff_eq.mpr c5
  clear c5
  by_cases c6 : t148.toList = ([121] : List UInt8)
  ·rw [if_pos c6] at H
   have c6b0 : (t148.toList == ([121] : List UInt8)) = true := beq_iff_eq.mpr c6
   have c6b1 : (t148.toList != ([121] : List UInt8)) = false := bne_eq_false_iff_eq.mpr c6
   clear c6
   by_cases c7 : t149 = 0
   ·rw [if_pos c7] at H
    have c7b0 : (t149 == 0) = true := beq_iff_eq.mpr c7
    have c7b1 : (t149 != 0) = false := bne_eq_false_iff_eq.mpr c7
    clear c7
    by_cases c8 : t141.toList = t144.toList
    ·rw [if_pos c8] at H
     have c8b0 : (t141.toList == t144.toList) = true := beq_iff_eq.mpr c8
     have c8b1 : (t141.toList != t144.toList) = false := bne_eq_false_iff_eq.mpr c8
     clear c8
     by_cases c9 : t142.toList = t145.toList
     ·rw [if_pos c9] at H
      have c9b0 : (t142.toList == t145.toList) = true := beq_iff_eq.mpr c9
      have c9b1 : (t142.toList != t145.toList) = false := bne_eq_false_iff_eq.mpr c9
      clear c9
      obtain rfl := Option.some.inj H
      go_enter Try.func6, Try.ntmps6
      go_wp2_with (first | ((with_reducible refine gate_callee (f := 21) rfl ?_); refine goesL_ (some 14) rfl rfl Try.func21 (by kernel_rfl) rfl #[.string a0] rfl (ar_) ?_; (with_reducible refine (pack_TakeText.calls k a0 t141 t142 t143 _ A2.out).mono ?_); rintro e w' ⟨rfl, ⟨nd, rfl⟩⟩; refine ⟨_, rfl, ?_⟩) | ((with_reducible refine gate_callee (f := 22) rfl ?_); refine goesL_ (some 20) rfl rfl Try.func22 (by kernel_rfl) rfl #[.string a0] rfl (ar_) ?_; (with_reducible refine (gafferref01_TakeText.calls k a0 t144 t145 t146 _ A3.out).mono ?_); rintro e w' ⟨rfl, ⟨nd, rfl⟩⟩; refine ⟨_, rfl, ?_⟩) | ((with_reducible refine gate_callee (f := 21) rfl ?_); refine goesL_ (some 25) rfl rfl Try.func21 (by kernel_rfl) rfl #[.string (⟨#[1, 1, 120, 121]⟩ : ByteArray)] rfl (ar_) ?_; (with_reducible refine (pack_TakeText.calls k (⟨#[1, 1, 120, 121]⟩ : ByteArray) t147 t148 t149 _ A4.out).mono ?_); rintro e w' ⟨rfl, ⟨nd, rfl⟩⟩; refine ⟨_, rfl, ?_⟩))
      go_ret
      exact ⟨by first | rfl | (simp; done) | (simp [*]; done), dr_⟩
     ·rw [if_neg c9] at H
      have c9b0 : (t142.toList == t145.toList) = false := beq_eq_false_iff_ne.mpr c9
      have c9b1 : (t142.toList != t145.toList) = true := bne_iff_ne.mpr c9
      exact absurd (H.trans (congrArg some hr)) (by simp)
    ·rw [if_neg c8] at H
     have c8b0 : (t141.toList == t144.toList) = false := beq_eq_false_iff_ne.mpr c8
     have c8b1 : (t141.toList != t144.toList) = true := bne_iff_ne.mpr c8
     exact absurd (H.trans (congrArg some hr)) (by simp)
   ·rw [if_neg c7] at H
    have c7b0 : (t149 == 0) = false := beq_eq_false_iff_ne.mpr c7
    have c7b1 : (t149 != 0) = true := bne_iff_ne.mpr c7
    exact absurd (H.trans (congrArg some hr)) (by simp)
  ·rw [if_neg c6] at H
   have c6b0 : (t148.toList == ([121] : List UInt8)) = false := beq_eq_false_iff_ne.mpr c6
   have c6b1 : (t148.toList != ([121] : List UInt8)) = true := bne_iff_ne.mpr c6
   exact absurd (H.trans (congrArg some hr)) (by simp)
 ·rw [if_neg c5] at H
  have c5b0 : (t147.toList == ([120] : List UInt8)) = false := beq_eq_false_iff_ne.mpr c5
  have c5b1 : (t147.toList != ([120] : List UInt8)) = true := bne_iff_ne.mpr c5
  exact absurd (H.trans (congrArg some hr)) (by simp)

/-- THE ONE PURE STATEMENT of gafferlaw01_PackTexts: yours. -/
def gafferlaw01_PackTexts.Pure : Prop := ∀ (a0 : ByteArray), a0.size ≤ 140737488351232 → ∃ k, gafferlaw01_PackTexts.f k a0 = some true
theorem gafferlaw01_PackTexts.walk (P : gafferlaw01_PackTexts.Pure) (a0 : ByteArray) (w : World) (w0 : a0.size ≤ 140737488351232) :
  Calls Try.prog 6 #[.string a0] w fun e w' => e = .returned (.bool true) ∧ Below w.heap.size w w' := by
 obtain ⟨k, h⟩ := P a0 w0
 refine (gafferlaw01_PackTexts.calls k a0 true w h rfl).mono ?_
 rintro e w' ⟨rfl, hd⟩
 exact ⟨rfl, hd.below⟩

/-! ### gafferlaw01_PackTakes: function 7 -/
def gafferlaw01_PackTakes.f (k : Nat) (a0 : ByteArray) : Option (Bool) := (pack_TakeNumber.f k a0).bind fun bt150 => ((gafferref01_TakeNumber.f k a0).bind fun bt153 => ((gafferlaw01_numbers.f k).bind fun t156 => (if t156 = true then (if bt150.1 = bt153.1 then (if bt150.2.1.toList = bt153.2.1.toList then (some (bt150.2.2 == bt153.2.2)) else (some false)) else (some false)) else (some false))))
theorem gafferlaw01_PackTakes.mono : ∀ a0 k, LeO (gafferlaw01_PackTakes.f k a0) (gafferlaw01_PackTakes.f (k + 1) a0) := by
 intro a0 k
 unfold gafferlaw01_PackTakes.f
 repeat' first
   | (with_reducible exact gafferlaw01_numbers.mono _)
   | (with_reducible exact gafferref01_TakeNumber.mono _ _)
   | (with_reducible exact pack_TakeNumber.mono _ _)
   | (with_reducible exact LeO.refl _)
   | (with_reducible exact LeO.none _)
   | (with_reducible refine LeO.ite ?_ ?_)
   | (with_reducible refine LeO.bind ?_ (fun _ => ?_))
   | exact gafferlaw01_numbers.mono _
   | exact gafferref01_TakeNumber.mono _ _
   | exact pack_TakeNumber.mono _ _
   | exact LeO.none _
   | refine LeO.ite ?_ ?_
   | refine LeO.bind ?_ (fun _ => ?_)
set_option maxHeartbeats 80000000 in
set_option maxRecDepth 100000 in
theorem gafferlaw01_PackTakes.calls (k : Nat) (a0 : ByteArray) (r : Bool) (w : World) (h : gafferlaw01_PackTakes.f k a0 = some r) (hr : r = true) :
  Calls Try.prog 7 #[.string a0] w fun e w' => e = .returned (.bool r) ∧ Below w.heap.size w w' := by
 have HB := Aside0.mk (Below.refl w.heap.size w)
 have H : ((pack_TakeNumber.f k a0).bind fun bt150 => ((gafferref01_TakeNumber.f k a0).bind fun bt153 => ((gafferlaw01_numbers.f k).bind fun t156 => (if t156 = true then (if bt150.1 = bt153.1 then (if bt150.2.1.toList = bt153.2.1.toList then (some (bt150.2.2 == bt153.2.2)) else (some false)) else (some false)) else (some false))))) = some r := h
 clear h
 replace H := Option.bind_eq_some_iff.mp H
 obtain ⟨⟨t150, t151, t152⟩, A20, H⟩ := H
 replace H : ((gafferref01_TakeNumber.f k a0).bind fun bt153 => ((gafferlaw01_numbers.f k).bind fun t156 => (if t156 = true then (if t150 = bt153.1 then (if t151.toList = bt153.2.1.toList then (some (t152 == bt153.2.2)) else (some false)) else (some false)) else (some false)))) = some r := H
 have A2 := Aside0.mk A20
 clear A20
 replace H := Option.bind_eq_some_iff.mp H
 obtain ⟨⟨t153, t154, t155⟩, A30, H⟩ := H
 replace H : ((gafferlaw01_numbers.f k).bind fun t156 => (if t156 = true then (if t150 = t153 then (if t151.toList = t154.toList then (some (t152 == t155)) else (some false)) else (some false)) else (some false))) = some r := H
 have A3 := Aside0.mk A30
 clear A30
 replace H := Option.bind_eq_some_iff.mp H
 obtain ⟨t156, A40, H⟩ := H
 replace H : (if t156 = true then (if t150 = t153 then (if t151.toList = t154.toList then (some (t152 == t155)) else (some false)) else (some false)) else (some false)) = some r := H
 have A4 := Aside0.mk A40
 clear A40
 by_cases c5 : t156 = true
 ·subst c5
  have H1 : (if t150 = t153 then (if t151.toList = t154.toList then (some (t152 == t155)) else (some false)) else (some false)) = some r := by rw [if_pos rfl] at H; exact H
  clear H
  have H := H1
  clear H1
  by_cases c6 : t150 = t153
  ·rw [if_pos c6] at H
   have c6b0 : (t150 == t153) = true := beq_iff_eq.mpr c6
   have c6b1 : (t150 != t153) = false := bne_eq_false_iff_eq.mpr c6
   clear c6
   by_cases c7 : t151.toList = t154.toList
   ·rw [if_pos c7] at H
    have c7b0 : (t151.toList == t154.toList) = true := beq_iff_eq.mpr c7
    have c7b1 : (t151.toList != t154.toList) = false := bne_eq_false_iff_eq.mpr c7
    clear c7
    obtain rfl := Option.some.inj H
    go_enter Try.func7, Try.ntmps7
    go_wp2_with (first | ((with_reducible refine gate_callee (f := 23) rfl ?_); refine goesL_ (some 11) rfl rfl Try.func23 (by kernel_rfl) rfl #[.string a0] rfl (ar_) ?_; (with_reducible refine (pack_TakeNumber.calls k a0 t150 t151 t152 _ A2.out).mono ?_); rintro e w' ⟨rfl, ⟨nd, rfl⟩⟩; refine ⟨_, rfl, ?_⟩) | ((with_reducible refine gate_callee (f := 24) rfl ?_); refine goesL_ (some 17) rfl rfl Try.func24 (by kernel_rfl) rfl #[.string a0] rfl (ar_) ?_; (with_reducible refine (gafferref01_TakeNumber.calls k a0 t153 t154 t155 _ A3.out).mono ?_); rintro e w' ⟨rfl, ⟨nd, rfl⟩⟩; refine ⟨_, rfl, ?_⟩) | ((with_reducible refine gate_callee (f := 16) rfl ?_); refine goesL_ (some 21) rfl rfl Try.func16 (by kernel_rfl) rfl #[] rfl (ar_) ?_; (with_reducible refine (gafferlaw01_numbers.calls k  true _ A4.out).mono ?_); rintro e w8 ⟨rfl, hb⟩; refine ⟨_, rfl, ?_⟩; replace HB := Aside0.mk (below_step (bl_ HB) hb); (try clear hb); (try clear hb2); (try clear hk); (try clear hi)))
    go_ret
    exact ⟨by first | rfl | (simp; done) | (simp [*]; done), bl_ HB⟩
   ·rw [if_neg c7] at H
    have c7b0 : (t151.toList == t154.toList) = false := beq_eq_false_iff_ne.mpr c7
    have c7b1 : (t151.toList != t154.toList) = true := bne_iff_ne.mpr c7
    exact absurd (H.trans (congrArg some hr)) (by simp)
  ·rw [if_neg c6] at H
   have c6b0 : (t150 == t153) = false := beq_eq_false_iff_ne.mpr c6
   have c6b1 : (t150 != t153) = true := bne_iff_ne.mpr c6
   exact absurd (H.trans (congrArg some hr)) (by simp)
 ·replace c5 := Bool.eq_false_iff.mpr c5
  subst c5
  have H1 : (some false) = some r := by rw [if_neg (show ¬ (false = true) by decide)] at H; exact H
  clear H
  have H := H1
  clear H1
  exact absurd (H.trans (congrArg some hr)) (by simp)

/-- THE ONE PURE STATEMENT of gafferlaw01_PackTakes: yours. -/
def gafferlaw01_PackTakes.Pure : Prop := ∀ (a0 : ByteArray), a0.size ≤ 140737488351232 → ∃ k, gafferlaw01_PackTakes.f k a0 = some true
theorem gafferlaw01_PackTakes.walk (P : gafferlaw01_PackTakes.Pure) (a0 : ByteArray) (w : World) (w0 : a0.size ≤ 140737488351232) :
  Calls Try.prog 7 #[.string a0] w fun e w' => e = .returned (.bool true) ∧ Below w.heap.size w w' := by
 obtain ⟨k, h⟩ := P a0 w0
 refine (gafferlaw01_PackTakes.calls k a0 true w h rfl).mono ?_
 rintro e w' ⟨rfl, hd⟩
 exact ⟨rfl, hd⟩

/-! ### pack_fixed: function 32 -/
def pack_fixed.l0 : Nat → Int → Int → List Int → Int → Int → Option (ByteArray)
 | 0, _, _, _, _, _ => none
 | k + 1, x0, x1, x5, x10, x11 => if x11 < x10 then (if 0 ≤ (wrap64 (8 * x11)) then (if 0 ≤ (wrap64 ((wrap64 (x1 - 1)) - x11)) then (if (wrap64 ((wrap64 (x1 - 1)) - x11)) < (x5.length : Int) then (pack_fixed.l0 k x0 x1 (x5.set ((wrap64 ((wrap64 (x1 - 1)) - x11)) : Int).toNat ((shr .u64 x0 (wrap64 (8 * x11))) % 256)) x10 (wrap64 (x11 + 1))) else (none)) else (none)) else (none)) else (some (strOfNums x5))
def pack_fixed.f (k : Nat) (a0 : Int) (a1 : Int) : Option (ByteArray) := if 0 ≤ a1 then (if (a1 : Int).toNat ≤ 281474976710656 then ((some (List.replicate (a1 : Int).toNat 0 : List Int)).bind fun y157 => (pack_fixed.l0 k a0 a1 y157 (y157.length : Int) 0)) else (none)) else (none)
theorem pack_fixed.mono_l : ∀ k, (∀ y0 y1 y2 y3 y4, LeO (pack_fixed.l0 k y0 y1 y2 y3 y4) (pack_fixed.l0 (k + 1) y0 y1 y2 y3 y4))
 | 0 => fun _ _ _ _ _ r h => by simp [pack_fixed.l0] at h
 | k + 1 => by
  have ih0 := pack_fixed.mono_l k
  ·intro y0 y1 y2 y3 y4
   unfold pack_fixed.l0
   repeat' first
   | (with_reducible exact ih0 _ _ _ _ _)
   | (with_reducible exact LeO.refl _)
   | (with_reducible exact LeO.none _)
   | (with_reducible refine LeO.ite ?_ ?_)
   | (with_reducible refine LeO.bind ?_ (fun _ => ?_))
   | exact ih0 _ _ _ _ _
   | exact LeO.none _
   | refine LeO.ite ?_ ?_
   | refine LeO.bind ?_ (fun _ => ?_)
theorem pack_fixed.mono : ∀ a0 a1 k, LeO (pack_fixed.f k a0 a1) (pack_fixed.f (k + 1) a0 a1) := by
 intro a0 a1 k
 have ih0 := pack_fixed.mono_l k
 unfold pack_fixed.f
 repeat' first
   | (with_reducible exact ih0 _ _ _ _ _)
   | (with_reducible exact LeO.refl _)
   | (with_reducible exact LeO.none _)
   | (with_reducible refine LeO.ite ?_ ?_)
   | (with_reducible refine LeO.bind ?_ (fun _ => ?_))
   | exact ih0 _ _ _ _ _
   | exact LeO.none _
   | refine LeO.ite ?_ ?_
   | refine LeO.bind ?_ (fun _ => ?_)
set_option maxHeartbeats 80000000 in
set_option maxRecDepth 100000 in
theorem pack_fixed.calls (k : Nat) (a0 : Int) (a1 : Int) (r : ByteArray) (w : World) (h : pack_fixed.f k a0 a1 = some r) :
  Calls Try.prog 32 #[.int .u64 a0, .int .i64 a1] w fun e w' => e = .returned (.string r) ∧ Below w.heap.size w w' := by
 have HB := Aside0.mk (Below.refl w.heap.size w)
 have H : (if 0 ≤ a1 then (if (a1 : Int).toNat ≤ 281474976710656 then ((some (List.replicate (a1 : Int).toNat 0 : List Int)).bind fun y157 => (pack_fixed.l0 k a0 a1 y157 (y157.length : Int) 0)) else (none)) else (none)) = some r := h
 clear h
 by_cases c3 : 0 ≤ a1
 ·rw [if_pos c3] at H
  have c3b0 := eq_true c3
  have c3b1 : decide (0 ≤ a1) = true := decide_eq_true c3
  clear c3
  by_cases c4 : (a1 : Int).toNat ≤ 281474976710656
  ·rw [if_pos c4] at H
   have c4b0 := eq_true c4
   have c4b1 : decide ((a1 : Int).toNat ≤ 281474976710656) = true := decide_eq_true c4
   clear c4
   obtain ⟨y157, hy157⟩ : ∃ y_ : List Int, y_ = (List.replicate (a1 : Int).toNat 0) := ⟨_, rfl⟩
   replace H : (pack_fixed.l0 k a0 a1 y157 (y157.length : Int) 0) = some r := by first | (rw [hy157]; with_reducible exact H) | (have H2_ := (Option.bind_some _ _).symm.trans H; rw [hy157]; with_reducible exact H2_) | (have H2_ := (Option.bind_some _ _).symm.trans H; with_reducible exact H2_) | with_reducible exact H | (rw [hy157]; exact H) | exact H
   have Ny157 := Aside0.mk hy157
   clear hy157
   have H' := Aside0.mk H
   clear H
   go_enter Try.func32, Try.ntmps32
   go_wp2_with (first | ((with_reducible refine gate_dst (N := 8) rfl ?_); refine Kd.R_make (Kd.int .u8) _ 5 rfl (N := 8) rfl 39 _ _ rfl a1 rfl rfl Try.underlying39 (.int .u8 0) 1 info5 rfl (by decide) (by omega) 0 (ok := fun _ => True) (okp := fun _ => True) rfl (fun _ hk => hk) trivial (of_decide_eq_true (by first | (with_reducible assumption) | assumption)) (Nat.le_trans (Nat.mul_le_mul_right _ (of_decide_eq_true (by first | (with_reducible assumption) | assumption) : a1.toNat ≤ 281474976710656)) (by omega)) (Below.refl _ _) (Nat.le_refl _) ?_; intro v158 w5 ho6 hb hg_ hnew_; clear hg_ hnew_; (first | rw [← Ny157.out] at ho6 | (simp only [Int.reduceToNat] at ho6; rw [← Ny157.out] at ho6)); have HO159 := Aside0.mk (Kd.R_lower ho6 (below_size (bl_ HB))); replace HB := Aside0.mk (below_step (bl_ HB) hb); clear hb ho6; obtain ⟨Ao7, co7, eo7⟩ := Kd.R_slice HO159.out; subst eo7))
   go_loopg [11] k (fun kq v11 w' => ∃ (x5_1 : List Int) (x11_1 : Int), v11 = .int .i64 x11_1 ∧ Aside0 (pack_fixed.l0 kq a0 a1 x5_1 (y157.length : Int) x11_1 = some r) ∧ Aside0 (kq ≤ k) ∧ Aside0 (Kd.R (Kd.int .u8) 5 w' w.heap.size (fun _ => True) (.slice Ao7 y157.length co7) x5_1) ∧ Aside0 (Below w.heap.size w w'))
   case atStart => exact ⟨(y157), (0), (by first | rfl | (simp; done) | (simp [*]; done)), H', ⟨Nat.le_refl _⟩, ⟨by (with_reducible repeat (first | apply Kd.R_alloc | apply Kd.R_drewN | apply Kd.R_drew)); exact HO159.out⟩, ⟨bl_ HB⟩⟩
   case round =>
    clear H'
    try clear p2
    try clear c3
    try clear c3b0
    try clear c3b1
    try clear c4
    try clear c4b0
    try clear c4b1
    obtain ⟨x5_1, x11_1, rfl, HA, HK1, HO_5, HB⟩ := hrel
    have hl5_1 := (Kd.R_reads' HO_5.out).1
    rw [hl5_1] at HO_5
    (try simp only [hl5_1])
    cases gk with
    | zero => exact absurd HA.out (by simp [pack_fixed.l0])
    | succ k1 =>
     have H := HA.out
     clear HA
     simp only [pack_fixed.l0] at H
     by_cases c8 : x11_1 < (y157.length : Int)
     ·rw [if_pos c8] at H
      have c8b0 : decide (x11_1 < (y157.length : Int)) = true := decide_eq_true c8
      (try rw [hl5_1] at c8b0)
      clear c8
      obtain ⟨ji9, hji9⟩ : ∃ j_ : Int, (wrap64 (8 * x11_1)) = j_ := ⟨_, rfl⟩
      replace H : (if 0 ≤ (ji9) then (if 0 ≤ (wrap64 ((wrap64 (a1 - 1)) - x11_1)) then (if (wrap64 ((wrap64 (a1 - 1)) - x11_1)) < (x5_1.length : Int) then (pack_fixed.l0 k1 a0 a1 (x5_1.set ((wrap64 ((wrap64 (a1 - 1)) - x11_1)) : Int).toNat ((shr .u64 a0 (ji9)) % 256)) (y157.length : Int) (wrap64 (x11_1 + 1))) else (none)) else (none)) else (none)) = some r := by first | (rw [hji9] at H; exact H) | (simp only [hji9] at H ⊢; exact H)
      have hji9w : (IntKind.i64.wrap (8 * x11_1)) = ji9 := (i64_w _).trans hji9
      by_cases c10 : 0 ≤ (ji9)
      ·rw [if_pos c10] at H
       have c10b0 := eq_true c10
       have c10b1 : decide (0 ≤ (ji9)) = true := decide_eq_true c10
       clear c10
       obtain ⟨ji11, hji11⟩ : ∃ j_ : Int, (shr .u64 a0 (ji9)) = j_ := ⟨_, rfl⟩
       replace H : (if 0 ≤ (wrap64 ((wrap64 (a1 - 1)) - x11_1)) then (if (wrap64 ((wrap64 (a1 - 1)) - x11_1)) < (x5_1.length : Int) then (pack_fixed.l0 k1 a0 a1 (x5_1.set ((wrap64 ((wrap64 (a1 - 1)) - x11_1)) : Int).toNat ((ji11) % 256)) (y157.length : Int) (wrap64 (x11_1 + 1))) else (none)) else (none)) = some r := by first | (rw [hji11] at H; exact H) | (simp only [hji11] at H ⊢; exact H)
       have hji11_ : (a0 / 2 ^ min (ji9).toNat 64) = ji11 := hji11
       have hji11z : (ji9) ≤ 64 → (a0 / 2 ^ (ji9).toNat) = ji11 := shr_small hji11
       obtain ⟨ji12, hji12⟩ : ∃ j_ : Int, (wrap64 ((wrap64 (a1 - 1)) - x11_1)) = j_ := ⟨_, rfl⟩
       replace H : (if 0 ≤ (ji12) then (if (ji12) < (x5_1.length : Int) then (pack_fixed.l0 k1 a0 a1 (x5_1.set ((ji12) : Int).toNat ((ji11) % 256)) (y157.length : Int) (wrap64 (x11_1 + 1))) else (none)) else (none)) = some r := by first | (rw [hji12] at H; exact H) | (simp only [hji12] at H ⊢; exact H)
       have hji12w : (IntKind.i64.wrap ((wrap64 (a1 - 1)) - x11_1)) = ji12 := (i64_w _).trans hji12
       by_cases c13 : 0 ≤ (ji12)
       ·rw [if_pos c13] at H
        have c13b0 : decide (0 ≤ (ji12)) = true := decide_eq_true c13
        clear c13
        by_cases c14 : (ji12) < (x5_1.length : Int)
        ·rw [if_pos c14] at H
         have c14b0 : decide ((ji12) < (x5_1.length : Int)) = true := decide_eq_true c14
         (try rw [hl5_1] at c14b0)
         clear c14
         obtain ⟨y160, hy160⟩ : ∃ y_ : List Int, y_ = (x5_1.set ((ji12) : Int).toNat ((ji11) % 256)) := ⟨_, rfl⟩
         replace H : (pack_fixed.l0 k1 a0 a1 y160 (y157.length : Int) (wrap64 (x11_1 + 1))) = some r := by first | (rw [hy160]; with_reducible exact H) | (have H2_ := (Option.bind_some _ _).symm.trans H; rw [hy160]; with_reducible exact H2_) | (have H2_ := (Option.bind_some _ _).symm.trans H; with_reducible exact H2_) | with_reducible exact H | (rw [hy160]; exact H) | exact H
         have Ny160 := Aside0.mk hy160
         clear hy160
         have H' := Aside0.mk H
         clear H
         have p15 : 0 ≤ ((ji12) : Int) := of_decide_eq_true (by first | (with_reducible assumption) | assumption)
         have q15 : ((ji12) : Int) < ((x5_1.length : Int) : Int) := of_decide_eq_true (by first | (with_reducible assumption) | assumption)
         obtain ⟨go15, co15, eo15, gb15, gl15, cl15, HG15⟩ := Kd.R_form HO_5.out (by omega)
         (first | cases eo15 | (injection eo15 with ea_ en_ ec_; (first | subst ea_ | (injection ea_ with ea_; subst ea_)); subst ec_; clear en_))
         have GB15 := Aside0.mk gb15
         have GG15 := Aside0.mk HG15
         clear gb15 gl15 HG15
         obtain ⟨hx15_0, hf15_0⟩ := Kd.R_celln 0 HO_5.out ((ji12) : Int) p15 q15
         replace p15 := eq_true p15
         replace q15 := eq_true q15
         have HP16 := Kd.R_putg HO_5.out ((ji12) : Int) ((ji11) % 256)
         go_wp2_with (first | ((with_reducible refine gate_store (t := 5) (p := 24) rfl ?_); refine store_event (t := 5) (p := 24) (v := ?vo_w17) (w1 := (wr.setCell ⟨go15, ((ji12) : Int).toNat, none⟩ (.int .u8 ((ji11) % 256)))) ?hg ?ho ?hn ?hr ?_; (case ho => rfl); (case hg => rfl); (case hn => rfl); (case hr => first | (go_simp; done) | (go_simp; rfl)); intro w17 hw; have hg : wr.grownBy w17 (some go15) := (by rw [hw]; exact HP16.2); have hp_ : Kd.R (Kd.int .u8) 5 w17 w.heap.size (fun _ => True) (.slice (some ⟨go15, 0, none⟩) x5_1.length co7) y160 := (by rw [hw, Ny160.out]; exact HP16.1); clear HP16; replace HO_5 := Aside0.mk (hp_); replace HB := Aside0.mk ((by rw [hw]; exact below_set (HB.out) GB15.out : Below w.heap.size w w17)); clear hg hw hp_))
         (try simp only [← hl5_1])
         go_roundg k1
         case measure => have := HK1.out; omega
         case rel => exact ⟨(y160), (wrap64 (x11_1 + 1)), (by first | rfl | (simp; done) | (simp [*]; done)), H', ⟨by have := HK1.out; omega⟩, ⟨by (try simp only [hl5_1]); (with_reducible repeat (first | apply Kd.R_alloc | apply Kd.R_drewN | apply Kd.R_drew)); exact HO_5.out⟩, ⟨bl_ HB⟩⟩
        ·rw [if_neg c14] at H
         exact absurd H (by simp)
       ·rw [if_neg c13] at H
        exact absurd H (by simp)
      ·rw [if_neg c10] at H
       exact absurd H (by simp)
     ·rw [if_neg c8] at H
      have c8b0 : decide (x11_1 < (y157.length : Int)) = false := decide_eq_false c8
      (try rw [hl5_1] at c8b0)
      clear c8
      obtain rfl := Option.some.inj H
      have hcv18 := own_string (P := Try.prog) Try.underlying39 Try.underlying5 Try.underlying9 (Kd.own_of_R HO_5.out)
      go_wp2
      go_ret
      exact ⟨by first | rfl | (simp; done) | (simp [*]; done), bl_ HB⟩
  ·rw [if_neg c4] at H
   exact absurd H (by simp)
 ·rw [if_neg c3] at H
  exact absurd H (by simp)

/-! ### pack_Frame: function 25 -/
def pack_Frame.f (k : Nat) (a0 : ByteArray) : Option (ByteArray × Int) := if (a0.size : Int) > 65536 then (some ((⟨#[]⟩ : ByteArray), 2)) else ((pack_fixed.f k (IntKind.u64.wrap ((a0.size : Int))) 4).bind fun t161 => (if t161.size + a0.size ≤ 9223372036854775807 then ((pack_Sum.f k (t161 ++ a0)).bind fun t162 => ((pack_fixed.f k (IntKind.u64.wrap (t162)) 2).bind fun t163 => (if t161.size + t163.size ≤ 9223372036854775807 then (if (t161 ++ t163).size + a0.size ≤ 9223372036854775807 then (some ((t161 ++ t163) ++ a0, 0)) else (none)) else (none)))) else (none)))
theorem pack_Frame.mono : ∀ a0 k, LeO (pack_Frame.f k a0) (pack_Frame.f (k + 1) a0) := by
 intro a0 k
 unfold pack_Frame.f
 repeat' first
   | (with_reducible exact pack_Sum.mono _ _)
   | (with_reducible exact pack_fixed.mono _ _ _)
   | (with_reducible exact LeO.refl _)
   | (with_reducible exact LeO.none _)
   | (with_reducible refine LeO.ite ?_ ?_)
   | (with_reducible refine LeO.bind ?_ (fun _ => ?_))
   | exact pack_Sum.mono _ _
   | exact pack_fixed.mono _ _ _
   | exact LeO.none _
   | refine LeO.ite ?_ ?_
   | refine LeO.bind ?_ (fun _ => ?_)
set_option maxHeartbeats 80000000 in
set_option maxRecDepth 100000 in
theorem pack_Frame.calls (k : Nat) (a0 : ByteArray) (r1 : ByteArray) (r2 : Int) (w : World) (h : pack_Frame.f k a0 = some (r1, r2)) :
  Calls Try.prog 25 #[.string a0] w fun e w' => e = .returned (.tuple #[.string r1, .int .i64 r2]) ∧ Below w.heap.size w w' := by
 have HB := Aside0.mk (Below.refl w.heap.size w)
 have H : (if (a0.size : Int) > 65536 then (some ((⟨#[]⟩ : ByteArray), 2)) else ((pack_fixed.f k (IntKind.u64.wrap ((a0.size : Int))) 4).bind fun t161 => (if t161.size + a0.size ≤ 9223372036854775807 then ((pack_Sum.f k (t161 ++ a0)).bind fun t162 => ((pack_fixed.f k (IntKind.u64.wrap (t162)) 2).bind fun t163 => (if t161.size + t163.size ≤ 9223372036854775807 then (if (t161 ++ t163).size + a0.size ≤ 9223372036854775807 then (some ((t161 ++ t163) ++ a0, 0)) else (none)) else (none)))) else (none)))) = some (r1, r2) := h
 clear h
 by_cases c2 : (a0.size : Int) > 65536
 ·rw [if_pos c2] at H
  have c2b0 : decide (65536 < (a0.size : Int)) = true := decide_eq_true c2
  have c2b1 : decide (65536 < a0.size) = true := decide_eq_true (by omega)
  clear c2
  simp only [Option.some.injEq, Prod.mk.injEq] at H
  obtain ⟨rfl, rfl⟩ := H
  go_enter Try.func25, Try.ntmps25
  go_wp2
  go_ret2
  exact ⟨by first | rfl | (simp; done) | (simp [*]; done), bl_ HB⟩
 ·rw [if_neg c2] at H
  have c2b0 : decide (65536 < (a0.size : Int)) = false := decide_eq_false c2
  have c2b1 : decide (65536 < a0.size) = false := decide_eq_false (by omega)
  clear c2
  replace H := Option.bind_eq_some_iff.mp H
  obtain ⟨t161, A30, H⟩ := H
  replace H : (if t161.size + a0.size ≤ 9223372036854775807 then ((pack_Sum.f k (t161 ++ a0)).bind fun t162 => ((pack_fixed.f k (IntKind.u64.wrap (t162)) 2).bind fun t163 => (if t161.size + t163.size ≤ 9223372036854775807 then (if (t161 ++ t163).size + a0.size ≤ 9223372036854775807 then (some ((t161 ++ t163) ++ a0, 0)) else (none)) else (none)))) else (none)) = some (r1, r2) := H
  have A3 := Aside0.mk A30
  clear A30
  by_cases c4 : t161.size + a0.size ≤ 9223372036854775807
  ·rw [if_pos c4] at H
   have c4b0 := eq_true c4
   have c4b1 : decide (t161.size + a0.size ≤ 9223372036854775807) = true := decide_eq_true c4
   try have c4b2 : (9223372036854775807 < t161.size + a0.size) = False := eq_false (Nat.not_lt.2 c4)
   clear c4
   replace H := Option.bind_eq_some_iff.mp H
   obtain ⟨t162, A50, H⟩ := H
   replace H : ((pack_fixed.f k (IntKind.u64.wrap (t162)) 2).bind fun t163 => (if t161.size + t163.size ≤ 9223372036854775807 then (if (t161 ++ t163).size + a0.size ≤ 9223372036854775807 then (some ((t161 ++ t163) ++ a0, 0)) else (none)) else (none))) = some (r1, r2) := H
   have A5 := Aside0.mk A50
   clear A50
   replace H := Option.bind_eq_some_iff.mp H
   obtain ⟨t163, A60, H⟩ := H
   replace H : (if t161.size + t163.size ≤ 9223372036854775807 then (if (t161 ++ t163).size + a0.size ≤ 9223372036854775807 then (some ((t161 ++ t163) ++ a0, 0)) else (none)) else (none)) = some (r1, r2) := H
   have A6 := Aside0.mk A60
   clear A60
   by_cases c7 : t161.size + t163.size ≤ 9223372036854775807
   ·rw [if_pos c7] at H
    have c7b0 := eq_true c7
    have c7b1 : decide (t161.size + t163.size ≤ 9223372036854775807) = true := decide_eq_true c7
    try have c7b2 : (9223372036854775807 < t161.size + t163.size) = False := eq_false (Nat.not_lt.2 c7)
    clear c7
    by_cases c8 : (t161 ++ t163).size + a0.size ≤ 9223372036854775807
    ·rw [if_pos c8] at H
     have c8b0 := eq_true c8
     have c8b1 : decide ((t161 ++ t163).size + a0.size ≤ 9223372036854775807) = true := decide_eq_true c8
     try have c8b2 : (9223372036854775807 < (t161 ++ t163).size + a0.size) = False := eq_false (Nat.not_lt.2 c8)
     clear c8
     simp only [Option.some.injEq, Prod.mk.injEq] at H
     obtain ⟨rfl, rfl⟩ := H
     (try (have c8b0x := c8b0; simp only [ByteArray.size_extract, ByteArray.size_append, Nat.min_self, Nat.sub_zero] at c8b0x))
     (try (have c8b1x := c8b1; simp only [ByteArray.size_extract, ByteArray.size_append, Nat.min_self, Nat.sub_zero] at c8b1x))
     (try (have c8b2x := c8b2; simp only [ByteArray.size_extract, ByteArray.size_append, Nat.min_self, Nat.sub_zero] at c8b2x))
     go_enter Try.func25, Try.ntmps25
     go_wp2_with (first | ((with_reducible refine gate_callee (f := 32) rfl ?_); refine goesL_ (some 11) rfl rfl Try.func32 (by kernel_rfl) rfl #[.int .u64 (IntKind.u64.wrap ((a0.size : Int))), .int .i64 4] rfl (ar_) ?_; (with_reducible refine (pack_fixed.calls k (IntKind.u64.wrap ((a0.size : Int))) 4 t161 _ A3.out).mono ?_); rintro e w9 ⟨rfl, hb⟩; refine ⟨_, rfl, ?_⟩; replace HB := Aside0.mk (below_step (bl_ HB) hb); (try clear hb); (try clear hb2); (try clear hk); (try clear hi)) | ((with_reducible refine gate_callee (f := 14) rfl ?_); refine goesL_ (some 16) rfl rfl Try.func14 (by kernel_rfl) rfl #[.string (t161 ++ a0)] rfl (ar_) ?_; (with_reducible refine (pack_Sum.calls k (t161 ++ a0) t162 _ A5.out).mono ?_); rintro e w' ⟨rfl, ⟨nd, rfl⟩⟩; refine ⟨_, rfl, ?_⟩) | ((with_reducible refine gate_callee (f := 32) rfl ?_); refine goesL_ (some 18) rfl rfl Try.func32 (by kernel_rfl) rfl #[.int .u64 (IntKind.u64.wrap (t162)), .int .i64 2] rfl (ar_) ?_; (with_reducible refine (pack_fixed.calls k (IntKind.u64.wrap (t162)) 2 t163 _ A6.out).mono ?_); rintro e w10 ⟨rfl, hb⟩; refine ⟨_, rfl, ?_⟩; replace HB := Aside0.mk (below_step (bl_ HB) hb); (try clear hb); (try clear hb2); (try clear hk); (try clear hi)))
     go_ret2
     exact ⟨by first | rfl | (simp; done) | (simp [*]; done), bl_ HB⟩
    ·rw [if_neg c8] at H
     exact absurd H (by simp)
   ·rw [if_neg c7] at H
    exact absurd H (by simp)
  ·rw [if_neg c4] at H
   exact absurd H (by simp)

/-! ### gafferref01_four: function 33 -/
def gafferref01_four.f (a0 : Int) : Option (ByteArray) := some (strOfNums (([(wrap64 (Int.tdiv a0 16777216)) % 256, (wrap64 (Int.tdiv a0 65536)) % 256, (wrap64 (Int.tdiv a0 256)) % 256, (a0) % 256] : List Int)))
set_option maxHeartbeats 80000000 in
set_option maxRecDepth 100000 in
theorem gafferref01_four.calls (a0 : Int) (r : ByteArray) (w : World) (h : gafferref01_four.f a0 = some r) :
  Calls Try.prog 33 #[.int .i64 a0] w fun e w' => e = .returned (.string r) ∧ Below w.heap.size w w' := by
 have HB := Aside0.mk (Below.refl w.heap.size w)
 have H : (some (strOfNums (([(wrap64 (Int.tdiv a0 16777216)) % 256, (wrap64 (Int.tdiv a0 65536)) % 256, (wrap64 (Int.tdiv a0 256)) % 256, (a0) % 256] : List Int)))) = some r := h
 clear h
 obtain ⟨y164, hy164⟩ : ∃ y_ : List Int, y_ = (([(wrap64 (Int.tdiv a0 16777216)) % 256, (wrap64 (Int.tdiv a0 65536)) % 256, (wrap64 (Int.tdiv a0 256)) % 256, (a0) % 256] : List Int)) := ⟨_, rfl⟩
 replace H : (some (strOfNums y164)) = some r := by first | (rw [hy164]; with_reducible exact H) | (have H2_ := (Option.bind_some _ _).symm.trans H; rw [hy164]; with_reducible exact H2_) | (have H2_ := (Option.bind_some _ _).symm.trans H; with_reducible exact H2_) | with_reducible exact H | (rw [hy164]; exact H) | exact H
 have Ny164 := Aside0.mk hy164
 clear hy164
 obtain rfl := Option.some.inj H
 go_enter Try.func33, Try.ntmps33
 go_wp2_with (first | ((with_reducible refine gate_dst (N := 14) rfl ?_); refine Kd.R_lit (Kd.int .u8) _ 5 ?hg (N := 14) ?hd (xs := ([(wrap64 (Int.tdiv a0 16777216)) % 256, (wrap64 (Int.tdiv a0 65536)) % 256, (wrap64 (Int.tdiv a0 256)) % 256, (a0) % 256] : List Int)) (inner := [.int .u8 ((wrap64 (Int.tdiv a0 16777216)) % 256), .int .u8 ((wrap64 (Int.tdiv a0 65536)) % 256), .int .u8 ((wrap64 (Int.tdiv a0 256)) % 256), .int .u8 ((a0) % 256)]) (ok := fun _ => True) (okp := fun _ => True) ?hr ?hp (fun _ hk => hk) trivial (Below.refl _ _) (Nat.le_refl _) (by simp) ?_; (case hd => rfl); (case hg => rfl); (case hr => first | (go_simp; done) | (go_simp; rfl)); (case hp => exact (Reps.one (show Kd.M (Kd.int .u8) _ _ _ ((wrap64 (Int.tdiv a0 16777216)) % 256) [.int .u8 ((wrap64 (Int.tdiv a0 16777216)) % 256)] from rfl) (Reps.one (show Kd.M (Kd.int .u8) _ _ _ ((wrap64 (Int.tdiv a0 65536)) % 256) [.int .u8 ((wrap64 (Int.tdiv a0 65536)) % 256)] from rfl) (Reps.one (show Kd.M (Kd.int .u8) _ _ _ ((wrap64 (Int.tdiv a0 256)) % 256) [.int .u8 ((wrap64 (Int.tdiv a0 256)) % 256)] from rfl) (Reps.one (show Kd.M (Kd.int .u8) _ _ _ ((a0) % 256) [.int .u8 ((a0) % 256)] from rfl) (Reps.none _ _)))))); intro v165 w2 ho3 hb hg_ hnew_; clear hg_ hnew_; (first | rw [← Ny164.out] at ho3 | (simp only [Int.reduceToNat] at ho3; rw [← Ny164.out] at ho3)); have HO166 := Aside0.mk (Kd.R_lower ho3 (below_size (bl_ HB))); replace HB := Aside0.mk (below_step (bl_ HB) hb); clear hb ho3; have hcv4 := own_string (P := Try.prog) Try.underlying39 Try.underlying5 Try.underlying9 (Kd.own_of_R HO166.out)))
 go_ret
 exact ⟨by first | rfl | (simp; done) | (simp [*]; done), bl_ HB⟩

end Go.Proofs.Ytkmkbhiipieolaa.PA
