-- By a program of this session.
import Derived.Test.YtcdibodjkdoknaaPMx0
namespace Go.Proofs.Ytcdibodjkdoknaa.PM
open Go.RowKit YtcdibodjkdoknaaW.PrintWords YtcdibodjkdoknaaW.PrintLast YtcdibodjkdoknaaW.PrintMore Sh Ytcdibodjkdoknaa.Op
attribute [local go_sem] max2_int min2_int max_two min_two max_three min_three max_four min_four
set_option linter.unusedVariables false
set_option maxHeartbeats 80000000
set_option maxRecDepth 100000
set_option linter.unusedSimpArgs false

def msg_flag.f (a0 : Bool) : Option (Int) := if a0 = true then (some 1) else (some 0)
theorem msg_flag.calls (a0 : Bool) (r : Int) (w : World) (h : msg_flag.f a0 = some r) :
  Calls Try.prog 41 #[.bool a0] w fun e w' => e = .returned (.int .u64 r) ∧ Drawn0 w w' := by
 have H := h
 unfold msg_flag.f at H
 clear h
 by_cases c_1 : a0 = true
 focus
  subst c_1
  rw [if_pos rfl] at H
  obtain rfl := Option.some.inj H
 rotate_left
 replace c_1 := Bool.eq_false_iff.mpr c_1
 subst c_1
 rw [if_neg (show ¬ (false = true) by decide)] at H
 obtain rfl := Option.some.inj H
 all_goals
  go_enter Try.func41, Try.ntmps41
  go_wp2
  go_ret
  exact ⟨fz_, dr_⟩

def bits_Len64.j0 : Nat → Int → Int → Option (Int)
 | 0, _, _ => none
 | k + 1, x0, x2 => if x0 ≥ 65536 then (if (x0 / 65536) ≥ 256 then (if 0 ≤ (((x0 / 65536) / 256) % 256) then (if (((x0 / 65536) / 256) % 256) < 256 then (some (wrap64 ((wrap64 ((wrap64 (x2 + 16)) + 8)) + (wrap64 (bt (⟨#[0, 1, 2, 2, 3, 3, 3, 3, 4, 4, 4, 4, 4, 4, 4, 4, 5, 5, 5, 5, 5, 5, 5, 5, 5, 5, 5, 5, 5, 5, 5, 5, 6, 6, 6, 6, 6, 6, 6, 6, 6, 6, 6, 6, 6, 6, 6, 6, 6, 6, 6, 6, 6, 6, 6, 6, 6, 6, 6, 6, 6, 6, 6, 6, 7, 7, 7, 7, 7, 7, 7, 7, 7, 7, 7, 7, 7, 7, 7, 7, 7, 7, 7, 7, 7, 7, 7, 7, 7, 7, 7, 7, 7, 7, 7, 7, 7, 7, 7, 7, 7, 7, 7, 7, 7, 7, 7, 7, 7, 7, 7, 7, 7, 7, 7, 7, 7, 7, 7, 7, 7, 7, 7, 7, 7, 7, 7, 7, 8, 8, 8, 8, 8, 8, 8, 8, 8, 8, 8, 8, 8, 8, 8, 8, 8, 8, 8, 8, 8, 8, 8, 8, 8, 8, 8, 8, 8, 8, 8, 8, 8, 8, 8, 8, 8, 8, 8, 8, 8, 8, 8, 8, 8, 8, 8, 8, 8, 8, 8, 8, 8, 8, 8, 8, 8, 8, 8, 8, 8, 8, 8, 8, 8, 8, 8, 8, 8, 8, 8, 8, 8, 8, 8, 8, 8, 8, 8, 8, 8, 8, 8, 8, 8, 8, 8, 8, 8, 8, 8, 8, 8, 8, 8, 8, 8, 8, 8, 8, 8, 8, 8, 8, 8, 8, 8, 8, 8, 8, 8, 8, 8, 8, 8, 8, 8, 8, 8, 8, 8, 8, 8, 8, 8, 8, 8, 8]⟩ : ByteArray) (((x0 / 65536) / 256) % 256)))))) else (none)) else (none)) else (if 0 ≤ ((x0 / 65536) % 256) then (if ((x0 / 65536) % 256) < 256 then (some (wrap64 ((wrap64 (x2 + 16)) + (wrap64 (bt (⟨#[0, 1, 2, 2, 3, 3, 3, 3, 4, 4, 4, 4, 4, 4, 4, 4, 5, 5, 5, 5, 5, 5, 5, 5, 5, 5, 5, 5, 5, 5, 5, 5, 6, 6, 6, 6, 6, 6, 6, 6, 6, 6, 6, 6, 6, 6, 6, 6, 6, 6, 6, 6, 6, 6, 6, 6, 6, 6, 6, 6, 6, 6, 6, 6, 7, 7, 7, 7, 7, 7, 7, 7, 7, 7, 7, 7, 7, 7, 7, 7, 7, 7, 7, 7, 7, 7, 7, 7, 7, 7, 7, 7, 7, 7, 7, 7, 7, 7, 7, 7, 7, 7, 7, 7, 7, 7, 7, 7, 7, 7, 7, 7, 7, 7, 7, 7, 7, 7, 7, 7, 7, 7, 7, 7, 7, 7, 7, 7, 8, 8, 8, 8, 8, 8, 8, 8, 8, 8, 8, 8, 8, 8, 8, 8, 8, 8, 8, 8, 8, 8, 8, 8, 8, 8, 8, 8, 8, 8, 8, 8, 8, 8, 8, 8, 8, 8, 8, 8, 8, 8, 8, 8, 8, 8, 8, 8, 8, 8, 8, 8, 8, 8, 8, 8, 8, 8, 8, 8, 8, 8, 8, 8, 8, 8, 8, 8, 8, 8, 8, 8, 8, 8, 8, 8, 8, 8, 8, 8, 8, 8, 8, 8, 8, 8, 8, 8, 8, 8, 8, 8, 8, 8, 8, 8, 8, 8, 8, 8, 8, 8, 8, 8, 8, 8, 8, 8, 8, 8, 8, 8, 8, 8, 8, 8, 8, 8, 8, 8, 8, 8, 8, 8, 8, 8, 8, 8]⟩ : ByteArray) ((x0 / 65536) % 256)))))) else (none)) else (none))) else (if x0 ≥ 256 then (if 0 ≤ ((x0 / 256) % 256) then (if ((x0 / 256) % 256) < 256 then (some (wrap64 ((wrap64 (x2 + 8)) + (wrap64 (bt (⟨#[0, 1, 2, 2, 3, 3, 3, 3, 4, 4, 4, 4, 4, 4, 4, 4, 5, 5, 5, 5, 5, 5, 5, 5, 5, 5, 5, 5, 5, 5, 5, 5, 6, 6, 6, 6, 6, 6, 6, 6, 6, 6, 6, 6, 6, 6, 6, 6, 6, 6, 6, 6, 6, 6, 6, 6, 6, 6, 6, 6, 6, 6, 6, 6, 7, 7, 7, 7, 7, 7, 7, 7, 7, 7, 7, 7, 7, 7, 7, 7, 7, 7, 7, 7, 7, 7, 7, 7, 7, 7, 7, 7, 7, 7, 7, 7, 7, 7, 7, 7, 7, 7, 7, 7, 7, 7, 7, 7, 7, 7, 7, 7, 7, 7, 7, 7, 7, 7, 7, 7, 7, 7, 7, 7, 7, 7, 7, 7, 8, 8, 8, 8, 8, 8, 8, 8, 8, 8, 8, 8, 8, 8, 8, 8, 8, 8, 8, 8, 8, 8, 8, 8, 8, 8, 8, 8, 8, 8, 8, 8, 8, 8, 8, 8, 8, 8, 8, 8, 8, 8, 8, 8, 8, 8, 8, 8, 8, 8, 8, 8, 8, 8, 8, 8, 8, 8, 8, 8, 8, 8, 8, 8, 8, 8, 8, 8, 8, 8, 8, 8, 8, 8, 8, 8, 8, 8, 8, 8, 8, 8, 8, 8, 8, 8, 8, 8, 8, 8, 8, 8, 8, 8, 8, 8, 8, 8, 8, 8, 8, 8, 8, 8, 8, 8, 8, 8, 8, 8, 8, 8, 8, 8, 8, 8, 8, 8, 8, 8, 8, 8, 8, 8, 8, 8, 8, 8]⟩ : ByteArray) ((x0 / 256) % 256)))))) else (none)) else (none)) else (if 0 ≤ ((x0) % 256) then (if ((x0) % 256) < 256 then (some (wrap64 (x2 + (wrap64 (bt (⟨#[0, 1, 2, 2, 3, 3, 3, 3, 4, 4, 4, 4, 4, 4, 4, 4, 5, 5, 5, 5, 5, 5, 5, 5, 5, 5, 5, 5, 5, 5, 5, 5, 6, 6, 6, 6, 6, 6, 6, 6, 6, 6, 6, 6, 6, 6, 6, 6, 6, 6, 6, 6, 6, 6, 6, 6, 6, 6, 6, 6, 6, 6, 6, 6, 7, 7, 7, 7, 7, 7, 7, 7, 7, 7, 7, 7, 7, 7, 7, 7, 7, 7, 7, 7, 7, 7, 7, 7, 7, 7, 7, 7, 7, 7, 7, 7, 7, 7, 7, 7, 7, 7, 7, 7, 7, 7, 7, 7, 7, 7, 7, 7, 7, 7, 7, 7, 7, 7, 7, 7, 7, 7, 7, 7, 7, 7, 7, 7, 8, 8, 8, 8, 8, 8, 8, 8, 8, 8, 8, 8, 8, 8, 8, 8, 8, 8, 8, 8, 8, 8, 8, 8, 8, 8, 8, 8, 8, 8, 8, 8, 8, 8, 8, 8, 8, 8, 8, 8, 8, 8, 8, 8, 8, 8, 8, 8, 8, 8, 8, 8, 8, 8, 8, 8, 8, 8, 8, 8, 8, 8, 8, 8, 8, 8, 8, 8, 8, 8, 8, 8, 8, 8, 8, 8, 8, 8, 8, 8, 8, 8, 8, 8, 8, 8, 8, 8, 8, 8, 8, 8, 8, 8, 8, 8, 8, 8, 8, 8, 8, 8, 8, 8, 8, 8, 8, 8, 8, 8, 8, 8, 8, 8, 8, 8, 8, 8, 8, 8, 8, 8, 8, 8, 8, 8, 8, 8]⟩ : ByteArray) ((x0) % 256)))))) else (none)) else (none)))
def bits_Len64.f (k : Nat) (a0 : Int) : Option (Int) := if a0 ≥ 4294967296 then (bits_Len64.j0 k (a0 / 4294967296) 32) else (bits_Len64.j0 k a0 0)
theorem bits_Len64.mono_l : ∀ k, (∀ y0 y1, LeO (bits_Len64.j0 k y0 y1) (bits_Len64.j0 (k + 1) y0 y1))
 | 0 => fun _ _ r h => by simp [bits_Len64.j0] at h
 | k + 1 => by
  have ih0 := bits_Len64.mono_l k
  ·intro y0 y1
   unfold bits_Len64.j0
   repeat' with_reducible first | apply ih0 | apply LeO.refl | apply LeO.none | apply LeO.ite | refine LeO.bind ?_ (fun _ => ?_)
theorem bits_Len64.mono : ∀ a0 k, LeO (bits_Len64.f k a0) (bits_Len64.f (k + 1) a0) := by
 intro a0 k
 have ih0 := bits_Len64.mono_l k
 unfold bits_Len64.f
 repeat' with_reducible first | apply ih0 | apply LeO.refl | apply LeO.none | apply LeO.ite | refine LeO.bind ?_ (fun _ => ?_)
theorem bits_Len64.calls (k : Nat) (a0 : Int) (r : Int) (w : World) (h : bits_Len64.f k a0 = some r) :
  Calls Try.prog 86 #[.int .u64 a0] w fun e w' => e = .returned (.int .i64 r) ∧ Drawn0 w w' := by
 have H := h
 unfold bits_Len64.f at H
 clear h
 have HC2 := a_ H
 clear H
 go_enter Try.func86, Try.ntmps86
 go_upto_if 4 with (fail)
 go_cut [0, 2] (fun v0 v2 wc => ∃ (kq : Nat) (x0_1 : Int) (x2_1 : Int), v0 = .int .u64 x0_1 ∧ v2 = .int .i64 x2_1 ∧ Aside0 (bits_Len64.j0 kq x0_1 x2_1 = some r) ∧ Aside0 (kq ≤ k) ∧ Drawn0 w wc)
 case first =>
  have H := HC2.out
  clear HC2
  by_cases c3 : a0 ≥ 4294967296
  rotate_left
  ·rw [if_neg c3] at H
   have c3b0 : decide (4294967296 ≤ a0) = false := decide_eq_false c3
   clear c3
   (first | rw [c3b0] | (simp only [i64_w, i32_w]; rw [c3b0]) | skip)
   have H' := a_ H
   clear H
   go_wp2
   go_meet
   case rel => exact ⟨_, (a0), (0), fz_, fz_, H', ⟨by first | omega | exact Nat.le_refl _⟩, dr_⟩
  rw [if_pos c3] at H
  have c3b0 : decide (4294967296 ≤ a0) = true := decide_eq_true c3
  clear c3
  (first | rw [c3b0] | (simp only [i64_w, i32_w]; rw [c3b0]) | skip)
  have H' := a_ H
  clear H
  go_wp2
  go_meet
  case rel => exact ⟨_, (a0 / 4294967296), (32), fz_, fz_, H', ⟨by first | omega | exact Nat.le_refl _⟩, dr_⟩
 case rest =>
  clear HC2
  try clear p2
  try clear c3
  try clear c3b0
  obtain ⟨kq, x0_1, x2_1, rfl, rfl, HA, HJ1, ⟨mc1, rfl⟩⟩ := hcut
  cases kq with
  | zero => exact absurd HA.out (by simp [bits_Len64.j0])
  | succ kj1 =>
   have H := HA.out
   clear HA
   simp only [bits_Len64.j0] at H
   by_cases c4 : x0_1 ≥ 65536
   rotate_left
   ·rw [if_neg c4] at H
    have c4b0 : decide (65536 ≤ x0_1) = false := decide_eq_false c4
    clear c4
    by_cases c14 : x0_1 ≥ 256
    rotate_left
    ·rw [if_neg c14] at H
     have c14b0 : decide (256 ≤ x0_1) = false := decide_eq_false c14
     clear c14
     obtain ⟨ji19, hji19⟩ : ∃ j_ : Int, ((x0_1) % 256) = j_ := ⟨_, rfl⟩
     replace H : (if 0 ≤ (ji19) then (if (ji19) < 256 then (some (wrap64 (x2_1 + (wrap64 (bt (⟨#[0, 1, 2, 2, 3, 3, 3, 3, 4, 4, 4, 4, 4, 4, 4, 4, 5, 5, 5, 5, 5, 5, 5, 5, 5, 5, 5, 5, 5, 5, 5, 5, 6, 6, 6, 6, 6, 6, 6, 6, 6, 6, 6, 6, 6, 6, 6, 6, 6, 6, 6, 6, 6, 6, 6, 6, 6, 6, 6, 6, 6, 6, 6, 6, 7, 7, 7, 7, 7, 7, 7, 7, 7, 7, 7, 7, 7, 7, 7, 7, 7, 7, 7, 7, 7, 7, 7, 7, 7, 7, 7, 7, 7, 7, 7, 7, 7, 7, 7, 7, 7, 7, 7, 7, 7, 7, 7, 7, 7, 7, 7, 7, 7, 7, 7, 7, 7, 7, 7, 7, 7, 7, 7, 7, 7, 7, 7, 7, 8, 8, 8, 8, 8, 8, 8, 8, 8, 8, 8, 8, 8, 8, 8, 8, 8, 8, 8, 8, 8, 8, 8, 8, 8, 8, 8, 8, 8, 8, 8, 8, 8, 8, 8, 8, 8, 8, 8, 8, 8, 8, 8, 8, 8, 8, 8, 8, 8, 8, 8, 8, 8, 8, 8, 8, 8, 8, 8, 8, 8, 8, 8, 8, 8, 8, 8, 8, 8, 8, 8, 8, 8, 8, 8, 8, 8, 8, 8, 8, 8, 8, 8, 8, 8, 8, 8, 8, 8, 8, 8, 8, 8, 8, 8, 8, 8, 8, 8, 8, 8, 8, 8, 8, 8, 8, 8, 8, 8, 8, 8, 8, 8, 8, 8, 8, 8, 8, 8, 8, 8, 8, 8, 8, 8, 8, 8, 8]⟩ : ByteArray) (ji19)))))) else (none)) else (none)) = some r := by first | (rw [hji19] at H; exact H) | (simp only [hji19] at H ⊢; exact H)
     by_cases c20 : 0 ≤ (ji19)
     rotate_left
     ·rw [if_neg c20] at H
      exact absurd H (by simp)


     rw [if_pos c20] at H
     have c20b0 : decide (0 ≤ (ji19)) = true := decide_eq_true c20
     clear c20
     by_cases c21 : (ji19) < 256
     rotate_left
     ·rw [if_neg c21] at H
      exact absurd H (by simp)
     rw [if_pos c21] at H
     have c21b0 : decide ((ji19) < 256) = true := decide_eq_true c21
     clear c21
     obtain rfl := Option.some.inj H
     have p22 : 0 ≤ ((ji19) : Int) := od_
     have q22 : (ji19) < (256 : Int) := od_
     have hx22 := bt_at (⟨#[0, 1, 2, 2, 3, 3, 3, 3, 4, 4, 4, 4, 4, 4, 4, 4, 5, 5, 5, 5, 5, 5, 5, 5, 5, 5, 5, 5, 5, 5, 5, 5, 6, 6, 6, 6, 6, 6, 6, 6, 6, 6, 6, 6, 6, 6, 6, 6, 6, 6, 6, 6, 6, 6, 6, 6, 6, 6, 6, 6, 6, 6, 6, 6, 7, 7, 7, 7, 7, 7, 7, 7, 7, 7, 7, 7, 7, 7, 7, 7, 7, 7, 7, 7, 7, 7, 7, 7, 7, 7, 7, 7, 7, 7, 7, 7, 7, 7, 7, 7, 7, 7, 7, 7, 7, 7, 7, 7, 7, 7, 7, 7, 7, 7, 7, 7, 7, 7, 7, 7, 7, 7, 7, 7, 7, 7, 7, 7, 8, 8, 8, 8, 8, 8, 8, 8, 8, 8, 8, 8, 8, 8, 8, 8, 8, 8, 8, 8, 8, 8, 8, 8, 8, 8, 8, 8, 8, 8, 8, 8, 8, 8, 8, 8, 8, 8, 8, 8, 8, 8, 8, 8, 8, 8, 8, 8, 8, 8, 8, 8, 8, 8, 8, 8, 8, 8, 8, 8, 8, 8, 8, 8, 8, 8, 8, 8, 8, 8, 8, 8, 8, 8, 8, 8, 8, 8, 8, 8, 8, 8, 8, 8, 8, 8, 8, 8, 8, 8, 8, 8, 8, 8, 8, 8, 8, 8, 8, 8, 8, 8, 8, 8, 8, 8, 8, 8, 8, 8, 8, 8, 8, 8, 8, 8, 8, 8, 8, 8, 8, 8, 8, 8, 8, 8, 8, 8]⟩ : ByteArray) (ji19)
     replace p22 := eq_true p22
     replace q22 := eq_true q22
     go_wp2
     go_ret
     exact ⟨by first | rfl | (simp; done) | (simp only [← hji19] <;> (first | rfl | simp)) | (simp [*]; done), dr_⟩
    rw [if_pos c14] at H
    have c14b0 : decide (256 ≤ x0_1) = true := decide_eq_true c14
    clear c14
    obtain ⟨ji15, hji15⟩ : ∃ j_ : Int, ((x0_1 / 256) % 256) = j_ := ⟨_, rfl⟩
    replace H : (if 0 ≤ (ji15) then (if (ji15) < 256 then (some (wrap64 ((wrap64 (x2_1 + 8)) + (wrap64 (bt (⟨#[0, 1, 2, 2, 3, 3, 3, 3, 4, 4, 4, 4, 4, 4, 4, 4, 5, 5, 5, 5, 5, 5, 5, 5, 5, 5, 5, 5, 5, 5, 5, 5, 6, 6, 6, 6, 6, 6, 6, 6, 6, 6, 6, 6, 6, 6, 6, 6, 6, 6, 6, 6, 6, 6, 6, 6, 6, 6, 6, 6, 6, 6, 6, 6, 7, 7, 7, 7, 7, 7, 7, 7, 7, 7, 7, 7, 7, 7, 7, 7, 7, 7, 7, 7, 7, 7, 7, 7, 7, 7, 7, 7, 7, 7, 7, 7, 7, 7, 7, 7, 7, 7, 7, 7, 7, 7, 7, 7, 7, 7, 7, 7, 7, 7, 7, 7, 7, 7, 7, 7, 7, 7, 7, 7, 7, 7, 7, 7, 8, 8, 8, 8, 8, 8, 8, 8, 8, 8, 8, 8, 8, 8, 8, 8, 8, 8, 8, 8, 8, 8, 8, 8, 8, 8, 8, 8, 8, 8, 8, 8, 8, 8, 8, 8, 8, 8, 8, 8, 8, 8, 8, 8, 8, 8, 8, 8, 8, 8, 8, 8, 8, 8, 8, 8, 8, 8, 8, 8, 8, 8, 8, 8, 8, 8, 8, 8, 8, 8, 8, 8, 8, 8, 8, 8, 8, 8, 8, 8, 8, 8, 8, 8, 8, 8, 8, 8, 8, 8, 8, 8, 8, 8, 8, 8, 8, 8, 8, 8, 8, 8, 8, 8, 8, 8, 8, 8, 8, 8, 8, 8, 8, 8, 8, 8, 8, 8, 8, 8, 8, 8, 8, 8, 8, 8, 8, 8]⟩ : ByteArray) (ji15)))))) else (none)) else (none)) = some r := by first | (rw [hji15] at H; exact H) | (simp only [hji15] at H ⊢; exact H)
    by_cases c16 : 0 ≤ (ji15)
    rotate_left
    ·rw [if_neg c16] at H
     exact absurd H (by simp)
    rw [if_pos c16] at H
    have c16b0 : decide (0 ≤ (ji15)) = true := decide_eq_true c16
    clear c16
    by_cases c17 : (ji15) < 256
    rotate_left
    ·rw [if_neg c17] at H
     exact absurd H (by simp)
    rw [if_pos c17] at H
    have c17b0 : decide ((ji15) < 256) = true := decide_eq_true c17
    clear c17
    obtain rfl := Option.some.inj H
    have p18 : 0 ≤ ((ji15) : Int) := od_
    have q18 : (ji15) < (256 : Int) := od_
    have hx18 := bt_at (⟨#[0, 1, 2, 2, 3, 3, 3, 3, 4, 4, 4, 4, 4, 4, 4, 4, 5, 5, 5, 5, 5, 5, 5, 5, 5, 5, 5, 5, 5, 5, 5, 5, 6, 6, 6, 6, 6, 6, 6, 6, 6, 6, 6, 6, 6, 6, 6, 6, 6, 6, 6, 6, 6, 6, 6, 6, 6, 6, 6, 6, 6, 6, 6, 6, 7, 7, 7, 7, 7, 7, 7, 7, 7, 7, 7, 7, 7, 7, 7, 7, 7, 7, 7, 7, 7, 7, 7, 7, 7, 7, 7, 7, 7, 7, 7, 7, 7, 7, 7, 7, 7, 7, 7, 7, 7, 7, 7, 7, 7, 7, 7, 7, 7, 7, 7, 7, 7, 7, 7, 7, 7, 7, 7, 7, 7, 7, 7, 7, 8, 8, 8, 8, 8, 8, 8, 8, 8, 8, 8, 8, 8, 8, 8, 8, 8, 8, 8, 8, 8, 8, 8, 8, 8, 8, 8, 8, 8, 8, 8, 8, 8, 8, 8, 8, 8, 8, 8, 8, 8, 8, 8, 8, 8, 8, 8, 8, 8, 8, 8, 8, 8, 8, 8, 8, 8, 8, 8, 8, 8, 8, 8, 8, 8, 8, 8, 8, 8, 8, 8, 8, 8, 8, 8, 8, 8, 8, 8, 8, 8, 8, 8, 8, 8, 8, 8, 8, 8, 8, 8, 8, 8, 8, 8, 8, 8, 8, 8, 8, 8, 8, 8, 8, 8, 8, 8, 8, 8, 8, 8, 8, 8, 8, 8, 8, 8, 8, 8, 8, 8, 8, 8, 8, 8, 8, 8, 8]⟩ : ByteArray) (ji15)
    replace p18 := eq_true p18
    replace q18 := eq_true q18
    go_wp2
    go_ret
    exact ⟨by first | rfl | (simp; done) | (simp only [← hji15] <;> (first | rfl | simp)) | (simp [*]; done), dr_⟩
   rw [if_pos c4] at H
   have c4b0 : decide (65536 ≤ x0_1) = true := decide_eq_true c4
   clear c4
   by_cases c5 : (x0_1 / 65536) ≥ 256
   ·rw [if_pos c5] at H
    have c5b0 : decide (256 ≤ (x0_1 / 65536)) = true := decide_eq_true c5
    clear c5
    obtain ⟨ji6, hji6⟩ : ∃ j_ : Int, (((x0_1 / 65536) / 256) % 256) = j_ := ⟨_, rfl⟩
    replace H : (if 0 ≤ (ji6) then (if (ji6) < 256 then (some (wrap64 ((wrap64 ((wrap64 (x2_1 + 16)) + 8)) + (wrap64 (bt (⟨#[0, 1, 2, 2, 3, 3, 3, 3, 4, 4, 4, 4, 4, 4, 4, 4, 5, 5, 5, 5, 5, 5, 5, 5, 5, 5, 5, 5, 5, 5, 5, 5, 6, 6, 6, 6, 6, 6, 6, 6, 6, 6, 6, 6, 6, 6, 6, 6, 6, 6, 6, 6, 6, 6, 6, 6, 6, 6, 6, 6, 6, 6, 6, 6, 7, 7, 7, 7, 7, 7, 7, 7, 7, 7, 7, 7, 7, 7, 7, 7, 7, 7, 7, 7, 7, 7, 7, 7, 7, 7, 7, 7, 7, 7, 7, 7, 7, 7, 7, 7, 7, 7, 7, 7, 7, 7, 7, 7, 7, 7, 7, 7, 7, 7, 7, 7, 7, 7, 7, 7, 7, 7, 7, 7, 7, 7, 7, 7, 8, 8, 8, 8, 8, 8, 8, 8, 8, 8, 8, 8, 8, 8, 8, 8, 8, 8, 8, 8, 8, 8, 8, 8, 8, 8, 8, 8, 8, 8, 8, 8, 8, 8, 8, 8, 8, 8, 8, 8, 8, 8, 8, 8, 8, 8, 8, 8, 8, 8, 8, 8, 8, 8, 8, 8, 8, 8, 8, 8, 8, 8, 8, 8, 8, 8, 8, 8, 8, 8, 8, 8, 8, 8, 8, 8, 8, 8, 8, 8, 8, 8, 8, 8, 8, 8, 8, 8, 8, 8, 8, 8, 8, 8, 8, 8, 8, 8, 8, 8, 8, 8, 8, 8, 8, 8, 8, 8, 8, 8, 8, 8, 8, 8, 8, 8, 8, 8, 8, 8, 8, 8, 8, 8, 8, 8, 8, 8]⟩ : ByteArray) (ji6)))))) else (none)) else (none)) = some r := by first | (rw [hji6] at H; exact H) | (simp only [hji6] at H ⊢; exact H)
    by_cases c7 : 0 ≤ (ji6)
    rotate_left
    ·rw [if_neg c7] at H
     exact absurd H (by simp)
    rw [if_pos c7] at H
    have c7b0 : decide (0 ≤ (ji6)) = true := decide_eq_true c7
    clear c7
    by_cases c8 : (ji6) < 256
    rotate_left
    ·rw [if_neg c8] at H
     exact absurd H (by simp)
    rw [if_pos c8] at H
    have c8b0 : decide ((ji6) < 256) = true := decide_eq_true c8
    clear c8
    obtain rfl := Option.some.inj H
    have p9 : 0 ≤ ((ji6) : Int) := od_
    have q9 : (ji6) < (256 : Int) := od_
    have hx9 := bt_at (⟨#[0, 1, 2, 2, 3, 3, 3, 3, 4, 4, 4, 4, 4, 4, 4, 4, 5, 5, 5, 5, 5, 5, 5, 5, 5, 5, 5, 5, 5, 5, 5, 5, 6, 6, 6, 6, 6, 6, 6, 6, 6, 6, 6, 6, 6, 6, 6, 6, 6, 6, 6, 6, 6, 6, 6, 6, 6, 6, 6, 6, 6, 6, 6, 6, 7, 7, 7, 7, 7, 7, 7, 7, 7, 7, 7, 7, 7, 7, 7, 7, 7, 7, 7, 7, 7, 7, 7, 7, 7, 7, 7, 7, 7, 7, 7, 7, 7, 7, 7, 7, 7, 7, 7, 7, 7, 7, 7, 7, 7, 7, 7, 7, 7, 7, 7, 7, 7, 7, 7, 7, 7, 7, 7, 7, 7, 7, 7, 7, 8, 8, 8, 8, 8, 8, 8, 8, 8, 8, 8, 8, 8, 8, 8, 8, 8, 8, 8, 8, 8, 8, 8, 8, 8, 8, 8, 8, 8, 8, 8, 8, 8, 8, 8, 8, 8, 8, 8, 8, 8, 8, 8, 8, 8, 8, 8, 8, 8, 8, 8, 8, 8, 8, 8, 8, 8, 8, 8, 8, 8, 8, 8, 8, 8, 8, 8, 8, 8, 8, 8, 8, 8, 8, 8, 8, 8, 8, 8, 8, 8, 8, 8, 8, 8, 8, 8, 8, 8, 8, 8, 8, 8, 8, 8, 8, 8, 8, 8, 8, 8, 8, 8, 8, 8, 8, 8, 8, 8, 8, 8, 8, 8, 8, 8, 8, 8, 8, 8, 8, 8, 8, 8, 8, 8, 8, 8, 8]⟩ : ByteArray) (ji6)
    replace p9 := eq_true p9
    replace q9 := eq_true q9
    go_wp2
    go_ret
    exact ⟨by first | rfl | (simp; done) | (simp only [← hji6] <;> (first | rfl | simp)) | (simp [*]; done), dr_⟩
   rw [if_neg c5] at H
   have c5b0 : decide (256 ≤ (x0_1 / 65536)) = false := decide_eq_false c5
   clear c5
   obtain ⟨ji10, hji10⟩ : ∃ j_ : Int, ((x0_1 / 65536) % 256) = j_ := ⟨_, rfl⟩
   replace H : (if 0 ≤ (ji10) then (if (ji10) < 256 then (some (wrap64 ((wrap64 (x2_1 + 16)) + (wrap64 (bt (⟨#[0, 1, 2, 2, 3, 3, 3, 3, 4, 4, 4, 4, 4, 4, 4, 4, 5, 5, 5, 5, 5, 5, 5, 5, 5, 5, 5, 5, 5, 5, 5, 5, 6, 6, 6, 6, 6, 6, 6, 6, 6, 6, 6, 6, 6, 6, 6, 6, 6, 6, 6, 6, 6, 6, 6, 6, 6, 6, 6, 6, 6, 6, 6, 6, 7, 7, 7, 7, 7, 7, 7, 7, 7, 7, 7, 7, 7, 7, 7, 7, 7, 7, 7, 7, 7, 7, 7, 7, 7, 7, 7, 7, 7, 7, 7, 7, 7, 7, 7, 7, 7, 7, 7, 7, 7, 7, 7, 7, 7, 7, 7, 7, 7, 7, 7, 7, 7, 7, 7, 7, 7, 7, 7, 7, 7, 7, 7, 7, 8, 8, 8, 8, 8, 8, 8, 8, 8, 8, 8, 8, 8, 8, 8, 8, 8, 8, 8, 8, 8, 8, 8, 8, 8, 8, 8, 8, 8, 8, 8, 8, 8, 8, 8, 8, 8, 8, 8, 8, 8, 8, 8, 8, 8, 8, 8, 8, 8, 8, 8, 8, 8, 8, 8, 8, 8, 8, 8, 8, 8, 8, 8, 8, 8, 8, 8, 8, 8, 8, 8, 8, 8, 8, 8, 8, 8, 8, 8, 8, 8, 8, 8, 8, 8, 8, 8, 8, 8, 8, 8, 8, 8, 8, 8, 8, 8, 8, 8, 8, 8, 8, 8, 8, 8, 8, 8, 8, 8, 8, 8, 8, 8, 8, 8, 8, 8, 8, 8, 8, 8, 8, 8, 8, 8, 8, 8, 8]⟩ : ByteArray) (ji10)))))) else (none)) else (none)) = some r := by first | (rw [hji10] at H; exact H) | (simp only [hji10] at H ⊢; exact H)
   by_cases c11 : 0 ≤ (ji10)
   rotate_left
   ·rw [if_neg c11] at H
    exact absurd H (by simp)
   rw [if_pos c11] at H
   have c11b0 : decide (0 ≤ (ji10)) = true := decide_eq_true c11
   clear c11
   by_cases c12 : (ji10) < 256
   rotate_left
   ·rw [if_neg c12] at H
    exact absurd H (by simp)
   rw [if_pos c12] at H
   have c12b0 : decide ((ji10) < 256) = true := decide_eq_true c12
   clear c12
   obtain rfl := Option.some.inj H
   have p13 : 0 ≤ ((ji10) : Int) := od_
   have q13 : (ji10) < (256 : Int) := od_
   have hx13 := bt_at (⟨#[0, 1, 2, 2, 3, 3, 3, 3, 4, 4, 4, 4, 4, 4, 4, 4, 5, 5, 5, 5, 5, 5, 5, 5, 5, 5, 5, 5, 5, 5, 5, 5, 6, 6, 6, 6, 6, 6, 6, 6, 6, 6, 6, 6, 6, 6, 6, 6, 6, 6, 6, 6, 6, 6, 6, 6, 6, 6, 6, 6, 6, 6, 6, 6, 7, 7, 7, 7, 7, 7, 7, 7, 7, 7, 7, 7, 7, 7, 7, 7, 7, 7, 7, 7, 7, 7, 7, 7, 7, 7, 7, 7, 7, 7, 7, 7, 7, 7, 7, 7, 7, 7, 7, 7, 7, 7, 7, 7, 7, 7, 7, 7, 7, 7, 7, 7, 7, 7, 7, 7, 7, 7, 7, 7, 7, 7, 7, 7, 8, 8, 8, 8, 8, 8, 8, 8, 8, 8, 8, 8, 8, 8, 8, 8, 8, 8, 8, 8, 8, 8, 8, 8, 8, 8, 8, 8, 8, 8, 8, 8, 8, 8, 8, 8, 8, 8, 8, 8, 8, 8, 8, 8, 8, 8, 8, 8, 8, 8, 8, 8, 8, 8, 8, 8, 8, 8, 8, 8, 8, 8, 8, 8, 8, 8, 8, 8, 8, 8, 8, 8, 8, 8, 8, 8, 8, 8, 8, 8, 8, 8, 8, 8, 8, 8, 8, 8, 8, 8, 8, 8, 8, 8, 8, 8, 8, 8, 8, 8, 8, 8, 8, 8, 8, 8, 8, 8, 8, 8, 8, 8, 8, 8, 8, 8, 8, 8, 8, 8, 8, 8, 8, 8, 8, 8, 8, 8]⟩ : ByteArray) (ji10)
   replace p13 := eq_true p13
   replace q13 := eq_true q13
   go_wp2
   go_ret
   exact ⟨by first | rfl | (simp; done) | (simp only [← hji10] <;> (first | rfl | simp)) | (simp [*]; done), dr_⟩
def pack_Number.l0 : Nat → Int → Int → List Int → Int → Int → Option (ByteArray)
 | 0, _, _, _, _, _ => none
 | k + 1, x0, x3, x4, x17, x18 => if x18 < x17 then (if 0 ≤ (wrap64 (8 * x18)) then (if 0 ≤ (wrap64 (x3 - x18)) then (if (wrap64 (x3 - x18)) < (x4.length : Int) then (pack_Number.l0 k x0 x3 (x4.set ((wrap64 (x3 - x18)) : Int).toNat ((shr .u64 x0 (wrap64 (8 * x18))) % 256)) x17 (wrap64 (x18 + 1))) else (none)) else (none)) else (none)) else (some (strOfNums x4))
def pack_Number.f (k : Nat) (a0 : Int) : Option (ByteArray) := (bits_Len64.f k a0).bind fun t123 => (if 0 ≤ (wrap64 ((wrap64 (Int.tdiv (wrap64 (t123 + 7)) 8)) + 1)) then (if (wrap64 ((wrap64 (Int.tdiv (wrap64 (t123 + 7)) 8)) + 1) : Int).toNat ≤ 281474976710656 then ((some (List.replicate (wrap64 ((wrap64 (Int.tdiv (wrap64 (t123 + 7)) 8)) + 1) : Int).toNat 0 : List Int)).bind fun y124 => (if 0 < (y124.length : Int) then (pack_Number.l0 k a0 (wrap64 (Int.tdiv (wrap64 (t123 + 7)) 8)) (y124.set (0 : Int).toNat ((wrap64 (Int.tdiv (wrap64 (t123 + 7)) 8)) % 256)) (wrap64 (Int.tdiv (wrap64 (t123 + 7)) 8)) 0) else (none))) else (none)) else (none))
theorem pack_Number.mono_l : ∀ k, (∀ y0 y1 y2 y3 y4, LeO (pack_Number.l0 k y0 y1 y2 y3 y4) (pack_Number.l0 (k + 1) y0 y1 y2 y3 y4))
 | 0 => fun _ _ _ _ _ r h => by simp [pack_Number.l0] at h
 | k + 1 => by
  have ih0 := pack_Number.mono_l k
  ·intro y0 y1 y2 y3 y4
   unfold pack_Number.l0
   repeat' with_reducible first | apply ih0 | apply bits_Len64.mono | apply LeO.refl | apply LeO.none | apply LeO.ite | refine LeO.bind ?_ (fun _ => ?_)
theorem pack_Number.mono : ∀ a0 k, LeO (pack_Number.f k a0) (pack_Number.f (k + 1) a0) := by
 intro a0 k
 have ih0 := pack_Number.mono_l k
 unfold pack_Number.f
 repeat' with_reducible first | apply ih0 | apply bits_Len64.mono | apply LeO.refl | apply LeO.none | apply LeO.ite | refine LeO.bind ?_ (fun _ => ?_)
theorem pack_Number.calls (k : Nat) (a0 : Int) (r : ByteArray) (w : World) (h : pack_Number.f k a0 = some r) :
  Calls Try.prog 73 #[.int .u64 a0] w fun e w' => e = .returned (.string r) ∧ Below w.heap.size w w' := by
 have HB := a_ (Below.refl w.heap.size w)
 have H := h
 unfold pack_Number.f at H
 clear h
 obtain ⟨t_1, A_1, H⟩ := Option.bind_eq_some_iff.mp H
 try dsimp only at H
 have A_2 := a_ A_1
 clear A_1
 obtain ⟨ji_1, hji_1⟩ : ∃ j_ : Int, (wrap64 ((wrap64 (Int.tdiv (wrap64 (t_1 + 7)) 8)) + 1)) = j_ := ⟨_, rfl⟩
 replace H : (if 0 ≤ (ji_1) then (if (ji_1 : Int).toNat ≤ 281474976710656 then ((some (List.replicate (ji_1 : Int).toNat 0 : List Int)).bind fun y124 => (if 0 < (y124.length : Int) then (pack_Number.l0 k a0 (wrap64 (Int.tdiv (wrap64 (t_1 + 7)) 8)) (y124.set (0 : Int).toNat ((wrap64 (Int.tdiv (wrap64 (t_1 + 7)) 8)) % 256)) (wrap64 (Int.tdiv (wrap64 (t_1 + 7)) 8)) 0) else (none))) else (none)) else (none)) = some r := by first | (rw [hji_1] at H; exact H) | (simp only [hji_1] at H ⊢; exact H)
 (try rw [hji_1] at A_2)
 have hji_2 : (IntKind.i64.wrap ((wrap64 (Int.tdiv (wrap64 (t_1 + 7)) 8)) + 1)) = ji_1 := (i64_w _).trans hji_1
 by_cases c_1 : 0 ≤ (ji_1)
 rotate_left
 ·rw [if_neg c_1] at H
  exact absurd H (by simp)
 rw [if_pos c_1] at H
 have c_2 := eq_true c_1
 have c_3 : decide (0 ≤ (ji_1)) = true := decide_eq_true c_1
 clear c_1
 by_cases c_4 : (ji_1 : Int).toNat ≤ 281474976710656
 rotate_left
 ·rw [if_neg c_4] at H
  exact absurd H (by simp)
 rw [if_pos c_4] at H
 have c_5 := eq_true c_4
 have c_6 : decide ((ji_1 : Int).toNat ≤ 281474976710656) = true := decide_eq_true c_4
 clear c_4
 obtain ⟨y_1, hy_1⟩ : ∃ y_ : List Int, y_ = (List.replicate (ji_1 : Int).toNat 0) := ⟨_, rfl⟩
 replace H : (if 0 < (y_1.length : Int) then (pack_Number.l0 k a0 (wrap64 (Int.tdiv (wrap64 (t_1 + 7)) 8)) (y_1.set (0 : Int).toNat ((wrap64 (Int.tdiv (wrap64 (t_1 + 7)) 8)) % 256)) (wrap64 (Int.tdiv (wrap64 (t_1 + 7)) 8)) 0) else (none)) = some r := by first | (rw [hy_1]; with_reducible exact H) | (have H_1 := (Option.bind_some _ _).symm.trans H; rw [hy_1]; with_reducible exact H_1) | (have H_1 := (Option.bind_some _ _).symm.trans H; with_reducible exact H_1) | with_reducible exact H | (rw [hy_1]; exact H) | exact H
 have Ny_1 := a_ hy_1
 clear hy_1
 by_cases c_7 : 0 < (y_1.length : Int)
 rotate_left
 ·rw [if_neg c_7] at H
  exact absurd H (by simp)
 rw [if_pos c_7] at H
 have c_8 : decide (0 < (y_1.length : Int)) = true := decide_eq_true c_7
 have c_9 : decide (0 < y_1.length) = true := decide_eq_true (by omega)
 clear c_7
 obtain ⟨y_2, hy_2⟩ : ∃ y_ : List Int, y_ = (y_1.set (0 : Int).toNat ((wrap64 (Int.tdiv (wrap64 (t_1 + 7)) 8)) % 256)) := ⟨_, rfl⟩
 replace H : (pack_Number.l0 k a0 (wrap64 (Int.tdiv (wrap64 (t_1 + 7)) 8)) y_2 (wrap64 (Int.tdiv (wrap64 (t_1 + 7)) 8)) 0) = some r := by first | (rw [hy_2]; with_reducible exact H) | (have H_1 := (Option.bind_some _ _).symm.trans H; rw [hy_2]; with_reducible exact H_1) | (have H_1 := (Option.bind_some _ _).symm.trans H; with_reducible exact H_1) | with_reducible exact H | (rw [hy_2]; exact H) | exact H
 have Ny_2 := a_ hy_2
 clear hy_2
 have H' := a_ H
 clear H
 go_enter Try.func73, Try.ntmps73
 go_wp2_with (first | ((with_reducible refine gk_ 86 ?_); refine gl_ (some 7) Try.func86 #[.int .u64 a0] ?_; (with_reducible refine (bits_Len64.calls k a0 t_1 _ A_2.out).mono ?_); rintro e w' ⟨rfl, ⟨nd, rfl⟩⟩; refine ⟨_, rfl, ?_⟩) | ((with_reducible refine gd_ 12 ?_); refine Kd.R_make (Kd.int .u8) _ 5 rfl (N := 12) rfl 26 _ _ rfl ji_1 rfl rfl Try.underlying26 (.int .u8 0) 1 info5 rfl (by decide) (by omega) 0 (ok := fun _ => True) (okp := fun _ => True) rfl (fun _ hk => hk) trivial od_ (Nat.le_trans (Nat.mul_le_mul_right _ (od_ : ji_1.toNat ≤ 281474976710656)) (by omega)) (Below.refl _ _) (Nat.le_refl _) ?_; intro v_1 w_1 ho_1 hb hg_ hnew_; clear hg_ hnew_; (first | rw [← Ny_1.out] at ho_1 | (simp only [Int.reduceToNat] at ho_1; rw [← Ny_1.out] at ho_1)); have HO_1 := a_ (Kd.R_lower ho_1 (below_size (bl_ HB))); replace HB := hB_ (bl_ HB) hb; clear hb ho_1; have p_1 : 0 ≤ (0 : Int) := (by omega); have q_1 : (0 : Int) < ((y_1.length : Int) : Int) := od_; have qi_1 : (0 < y_1.length) = True := eq_true (by omega); obtain ⟨go_1, co_1, eo_1, gb_1, gl_1, cl_1, HG_1⟩ := Kd.R_form HO_1.out (by omega); (first | cases eo_1 | (injection eo_1 with ea_ en_ ec_; (first | subst ea_ | (injection ea_ with ea_; subst ea_)); subst ec_; clear en_)); have GB_1 := a_ gb_1; have GG_1 := a_ HG_1; clear gb_1 gl_1 HG_1; obtain ⟨hx_1, hf_1⟩ := Kd.R_celln 0 HO_1.out (0 : Int) p_1 q_1; (try rw [show ((0 : Int)).toNat = 0 from rfl] at hx_1); (try simp only [Nat.reduceMul, Nat.zero_mul, Nat.zero_add, Nat.reduceAdd] at hx_1); (try rw [show ((0 : Int)).toNat = 0 from rfl] at hf_1); (try simp only [Nat.reduceMul, Nat.zero_mul, Nat.zero_add, Nat.reduceAdd] at hf_1); replace p_1 := eq_true p_1; replace q_1 := eq_true q_1; obtain ⟨hy_3, hz_1⟩ := Kd.R_celln 0 HO_1.out (0 : Int) (by omega) od_; (try simp only [Int.reduceToNat, Int.toNat_zero, Int.toNat_ofNat, Nat.reduceMul, Nat.zero_mul, Nat.zero_add] at hy_3 hz_1); (try rw [show ((0 : Int)).toNat = 0 from rfl] at hy_3); (try rw [show ((0 : Int)).toNat = 0 from rfl] at hz_1); have HP_1 := Kd.R_putg HO_1.out (0 : Int) ((wrap64 (Int.tdiv (wrap64 (t_1 + 7)) 8)) % 256)) | ((with_reducible refine gate_store (t := 5) (p := 16) rfl ?_); refine store_event (t := 5) (p := 16) (v := ?vo_w11) (w1 := (w_1.setCell ⟨go_1, (0 : Int).toNat, none⟩ (.int .u8 ((wrap64 (Int.tdiv (wrap64 (t_1 + 7)) 8)) % 256)))) ?hg ?ho ?hn ?hr ?_; (case ho => rfl); (case hg => rfl); (case hn => rfl); (case hr => first | (go_simp; done) | (go_simp; rfl)); intro w_2 hw; have hg : w_1.grownBy w_2 (some go_1) := (by rw [hw]; exact HP_1.2); have hp_ : Kd.R (Kd.int .u8) 5 w_2 w.heap.size (fun _ => True) (.slice (some ⟨go_1, 0, none⟩) y_1.length co_1) y_2 := (by rw [hw, Ny_2.out]; exact HP_1.1); clear HP_1; replace HO_1 := a_ (hp_); replace HB := a_ ((by rw [hw]; exact below_set (HB.out) GB_1.out : Below w.heap.size w w_2)); clear hg hw hp_))
 go_loopg [18] k (fun kq v18 w' => ∃ (x4_1 : List Int) (x18_1 : Int), v18 = .int .i64 x18_1 ∧ Aside0 (pack_Number.l0 kq a0 (wrap64 (Int.tdiv (wrap64 (t_1 + 7)) 8)) x4_1 (wrap64 (Int.tdiv (wrap64 (t_1 + 7)) 8)) x18_1 = some r) ∧ Aside0 (kq ≤ k) ∧ Aside0 (Kd.R (Kd.int .u8) 5 w' w.heap.size (fun _ => True) (.slice (some ⟨go_1, 0, none⟩) y_1.length co_1) x4_1) ∧ Aside0 (Below w.heap.size w w'))
 case atStart => exact ⟨(y_2), (0), fz_, H', ⟨Nat.le_refl _⟩, ⟨by refine rq_ ?_; exact HO_1.out⟩, ⟨bl_ HB⟩⟩
 case round =>
  clear H'
  try clear p2
  try clear c_1
  try clear c_2
  try clear c_3
  try clear c_4
  try clear c_5
  try clear c_6
  try clear c_7
  try clear c_8
  try clear c_9
  try clear p6
  try clear c7
  try clear p_1
  try clear q_1
  try clear hx7
  try clear qi_1
  try clear hf7
  try clear c8
  try clear hx_1
  try clear p_1
  try clear q_1
  obtain ⟨x_1, x_2, rfl, HA, HK_1, HO_2, HB⟩ := hrel
  have hl_1 := (Kd.R_reads' HO_2.out).1
  rw [hl_1] at HO_2
  (try simp only [hl_1])
  cases gk with
  | zero => exact absurd HA.out (by simp [pack_Number.l0])
  | succ k1 =>
   have H := HA.out
   clear HA
   simp only [pack_Number.l0] at H
   by_cases c_10 : x_2 < (wrap64 (Int.tdiv (wrap64 (t_1 + 7)) 8))
   rotate_left
   ·rw [if_neg c_10] at H
    have c_11 : decide (x_2 < (wrap64 (Int.tdiv (wrap64 (t_1 + 7)) 8))) = false := decide_eq_false c_10
    clear c_10
    obtain rfl := Option.some.inj H
    have hcv_1 := own_string (P := Try.prog) Try.underlying26 Try.underlying5 Try.underlying9 (Kd.own_of_R HO_2.out)
    go_wp2
    go_ret
    exact ⟨by first | rfl | (simp [errW_none, errW_some] <;> rfl) | (simp only [← hji_1]; first | rfl | (simp [errW_none, errW_some] <;> rfl)) | (simp [*, errW_none, errW_some] <;> rfl), bl_ HB⟩
   rw [if_pos c_10] at H
   have c_11 : decide (x_2 < (wrap64 (Int.tdiv (wrap64 (t_1 + 7)) 8))) = true := decide_eq_true c_10
   clear c_10
   obtain ⟨ji_2, hji_3⟩ : ∃ j_ : Int, (wrap64 (8 * x_2)) = j_ := ⟨_, rfl⟩
   replace H : (if 0 ≤ (ji_2) then (if 0 ≤ (wrap64 ((wrap64 (Int.tdiv (wrap64 (t_1 + 7)) 8)) - x_2)) then (if (wrap64 ((wrap64 (Int.tdiv (wrap64 (t_1 + 7)) 8)) - x_2)) < (x_1.length : Int) then (pack_Number.l0 k1 a0 (wrap64 (Int.tdiv (wrap64 (t_1 + 7)) 8)) (x_1.set ((wrap64 ((wrap64 (Int.tdiv (wrap64 (t_1 + 7)) 8)) - x_2)) : Int).toNat ((shr .u64 a0 (ji_2)) % 256)) (wrap64 (Int.tdiv (wrap64 (t_1 + 7)) 8)) (wrap64 (x_2 + 1))) else (none)) else (none)) else (none)) = some r := by first | (rw [hji_3] at H; exact H) | (simp only [hji_3] at H ⊢; exact H)
   have hji_4 : (IntKind.i64.wrap (8 * x_2)) = ji_2 := (i64_w _).trans hji_3
   by_cases c_12 : 0 ≤ (ji_2)
   rotate_left
   ·rw [if_neg c_12] at H
    exact absurd H (by simp)
   rw [if_pos c_12] at H
   have c_13 := eq_true c_12
   have c_14 : decide (0 ≤ (ji_2)) = true := decide_eq_true c_12
   clear c_12
   obtain ⟨ji_3, hji_5⟩ : ∃ j_ : Int, (shr .u64 a0 (ji_2)) = j_ := ⟨_, rfl⟩
   replace H : (if 0 ≤ (wrap64 ((wrap64 (Int.tdiv (wrap64 (t_1 + 7)) 8)) - x_2)) then (if (wrap64 ((wrap64 (Int.tdiv (wrap64 (t_1 + 7)) 8)) - x_2)) < (x_1.length : Int) then (pack_Number.l0 k1 a0 (wrap64 (Int.tdiv (wrap64 (t_1 + 7)) 8)) (x_1.set ((wrap64 ((wrap64 (Int.tdiv (wrap64 (t_1 + 7)) 8)) - x_2)) : Int).toNat ((ji_3) % 256)) (wrap64 (Int.tdiv (wrap64 (t_1 + 7)) 8)) (wrap64 (x_2 + 1))) else (none)) else (none)) = some r := by first | (rw [hji_5] at H; exact H) | (simp only [hji_5] at H ⊢; exact H)
   have hji_6 : (a0 / 2 ^ min (ji_2).toNat 64) = ji_3 := hji_5
   have hji_7 : (ji_2) ≤ 64 → (a0 / 2 ^ (ji_2).toNat) = ji_3 := shr_small hji_5
   obtain ⟨ji_4, hji_8⟩ : ∃ j_ : Int, (wrap64 ((wrap64 (Int.tdiv (wrap64 (t_1 + 7)) 8)) - x_2)) = j_ := ⟨_, rfl⟩
   replace H : (if 0 ≤ (ji_4) then (if (ji_4) < (x_1.length : Int) then (pack_Number.l0 k1 a0 (wrap64 (Int.tdiv (wrap64 (t_1 + 7)) 8)) (x_1.set ((ji_4) : Int).toNat ((ji_3) % 256)) (wrap64 (Int.tdiv (wrap64 (t_1 + 7)) 8)) (wrap64 (x_2 + 1))) else (none)) else (none)) = some r := by first | (rw [hji_8] at H; exact H) | (simp only [hji_8] at H ⊢; exact H)
   have hji_9 : (IntKind.i64.wrap ((wrap64 (Int.tdiv (wrap64 (t_1 + 7)) 8)) - x_2)) = ji_4 := (i64_w _).trans hji_8
   by_cases c_15 : 0 ≤ (ji_4)
   rotate_left
   ·rw [if_neg c_15] at H
    exact absurd H (by simp)
   rw [if_pos c_15] at H
   have c_16 : decide (0 ≤ (ji_4)) = true := decide_eq_true c_15
   clear c_15
   by_cases c_17 : (ji_4) < (x_1.length : Int)
   rotate_left
   ·rw [if_neg c_17] at H
    exact absurd H (by simp)
   rw [if_pos c_17] at H
   have c_18 : decide ((ji_4) < (x_1.length : Int)) = true := decide_eq_true c_17
   (try rw [hl_1] at c_18)
   clear c_17
   obtain ⟨y_3, hy_4⟩ : ∃ y_ : List Int, y_ = (x_1.set ((ji_4) : Int).toNat ((ji_3) % 256)) := ⟨_, rfl⟩
   replace H : (pack_Number.l0 k1 a0 (wrap64 (Int.tdiv (wrap64 (t_1 + 7)) 8)) y_3 (wrap64 (Int.tdiv (wrap64 (t_1 + 7)) 8)) (wrap64 (x_2 + 1))) = some r := by first | (rw [hy_4]; with_reducible exact H) | (have H_1 := (Option.bind_some _ _).symm.trans H; rw [hy_4]; with_reducible exact H_1) | (have H_1 := (Option.bind_some _ _).symm.trans H; with_reducible exact H_1) | with_reducible exact H | (rw [hy_4]; exact H) | exact H
   have Ny_3 := a_ hy_4
   clear hy_4
   have H' := a_ H
   clear H
   have p_2 : 0 ≤ ((ji_4) : Int) := od_
   have q_2 : ((ji_4) : Int) < ((x_1.length : Int) : Int) := od_
   obtain ⟨hx_2, hf_2⟩ := Kd.R_celln 0 HO_2.out ((ji_4) : Int) p_2 q_2
   replace p_2 := eq_true p_2
   replace q_2 := eq_true q_2
   have HP_2 := Kd.R_putg HO_2.out ((ji_4) : Int) ((ji_3) % 256)
   go_wp2_with (first | ((with_reducible refine gate_store (t := 5) (p := 30) rfl ?_); refine store_event (t := 5) (p := 30) (v := ?vo_w21) (w1 := (wr.setCell ⟨go_1, ((ji_4) : Int).toNat, none⟩ (.int .u8 ((ji_3) % 256)))) ?hg ?ho ?hn ?hr ?_; (case ho => rfl); (case hg => rfl); (case hn => rfl); (case hr => first | (go_simp; done) | (go_simp; rfl)); intro w_3 hw; have hg : wr.grownBy w_3 (some go_1) := (by rw [hw]; exact HP_2.2); have hp_ : Kd.R (Kd.int .u8) 5 w_3 w.heap.size (fun _ => True) (.slice (some ⟨go_1, 0, none⟩) x_1.length co_1) y_3 := (by rw [hw, Ny_3.out]; exact HP_2.1); clear HP_2; replace HO_2 := a_ (hp_); replace HB := a_ ((by rw [hw]; exact below_set (HB.out) GB_1.out : Below w.heap.size w w_3)); clear hg hw hp_))
   (try simp only [← hl_1])
   go_roundg k1
   case measure => have := HK_1.out; omega
   case rel => exact ⟨(y_3), (wrap64 (x_2 + 1)), fz_, H', ⟨by have := HK_1.out; omega⟩, ⟨by (try simp only [hl_1]); refine rq_ ?_; exact HO_2.out⟩, ⟨bl_ HB⟩⟩

def pack_Text.f (k : Nat) (a0 : ByteArray) : Option (ByteArray) := (pack_Number.f k (IntKind.u64.wrap ((a0.size : Int)))).bind fun t129 => (if t129.size + a0.size ≤ 9223372036854775807 then (some (t129 ++ a0)) else (none))
theorem pack_Text.mono : ∀ a0 k, LeO (pack_Text.f k a0) (pack_Text.f (k + 1) a0) := by
 intro a0 k
 unfold pack_Text.f
 repeat' with_reducible first | apply pack_Number.mono | apply LeO.refl | apply LeO.none | apply LeO.ite | refine LeO.bind ?_ (fun _ => ?_)
theorem pack_Text.calls (k : Nat) (a0 : ByteArray) (r : ByteArray) (w : World) (h : pack_Text.f k a0 = some r) :
  Calls Try.prog 74 #[.string a0] w fun e w' => e = .returned (.string r) ∧ Below w.heap.size w w' := by
 have HB := a_ (Below.refl w.heap.size w)
 have H := h
 unfold pack_Text.f at H
 clear h
 obtain ⟨t129, A20, H⟩ := Option.bind_eq_some_iff.mp H
 try dsimp only at H
 have A2 := a_ A20
 clear A20
 by_cases c3 : t129.size + a0.size ≤ 9223372036854775807
 rotate_left
 ·rw [if_neg c3] at H
  exact absurd H (by simp)


 rw [if_pos c3] at H
 have c3b0 := eq_true c3
 have c3b1 : decide (t129.size + a0.size ≤ 9223372036854775807) = true := decide_eq_true c3
 try have c3b2 : (9223372036854775807 < t129.size + a0.size) = False := eq_false (Nat.not_lt.2 c3)
 clear c3
 obtain rfl := Option.some.inj H
 go_enter Try.func74, Try.ntmps74
 go_wp2_with (first | ((with_reducible refine gk_ 73 ?_); refine gl_ (some 6) Try.func73 #[.int .u64 (IntKind.u64.wrap ((a0.size : Int)))] ?_; (with_reducible refine (pack_Number.calls k (IntKind.u64.wrap ((a0.size : Int))) t129 _ A2.out).mono ?_); rintro e w4 ⟨rfl, hb⟩; refine ⟨_, rfl, ?_⟩; replace HB := hB_ (bl_ HB) hb; (try clear hb)))
 go_ret
 exact ⟨fz_, bl_ HB⟩
def wal_Ints.l0 : Nat → ByteArray → List Int → Int → Int → Option ByteArray
 | 0, _, _, _, _ => none
 | k + 1, s, xs, m, j => if j < m then (if 0 ≤ j then (if j < (xs.length : Int) then ((pack_Number.f k (IntKind.u64.wrap (rd xs j))).bind fun t => (if s.size + t.size ≤ 140737488355328 then (wal_Ints.l0 k (s ++ t) xs m (wrap64 (j + 1))) else none)) else none) else none) else (some s)
def wal_Ints.f (k : Nat) (l0 : List Int) : Option ByteArray := (pack_Number.f k (IntKind.u64.wrap ((l0.length : Int)))).bind fun t => (if (⟨#[]⟩ : ByteArray).size + t.size ≤ 140737488355328 then (wal_Ints.l0 k ((⟨#[]⟩ : ByteArray) ++ t) l0 (l0.length : Int) 0) else none)
theorem wal_Ints.mono_l : ∀ k, (∀ y0 y1 y2 y3, LeO (wal_Ints.l0 k y0 y1 y2 y3) (wal_Ints.l0 (k + 1) y0 y1 y2 y3))
 | 0 => fun _ _ _ _ r h => by simp [wal_Ints.l0] at h
 | k + 1 => by
  have ih0 := wal_Ints.mono_l k
  intro y0 y1 y2 y3
  unfold wal_Ints.l0
  repeat' with_reducible first | apply ih0 | apply pack_Number.mono | apply LeO.refl | apply LeO.none | apply LeO.ite | refine LeO.bind ?_ (fun _ => ?_)
theorem wal_Ints.mono : ∀ a0 k, LeO (wal_Ints.f k a0) (wal_Ints.f (k + 1) a0) := fun a0 k => LeO.bind (pack_Number.mono _ k) (fun _ => LeO.ite (wal_Ints.mono_l k _ _ _ _) (LeO.none _))
theorem wal_Ints.calls (k : Nat) (A0 : Option Addr) (c0 : Nat) (l0 : List Int) (r : ByteArray) (w : World) (hr0 : Kd.C (Kd.int .i64) w A0 l0.length l0) (hc0 : l0.length ≤ c0) (h : wal_Ints.f k l0 = some r) :
  Calls Try.prog 75 #[.slice A0 l0.length c0] w fun e w' => e = .returned (.string r) ∧ Below w.heap.size w w' := by
 have HR0 := a_ hr0
 have HC0 := a_ hc0
 clear hr0 hc0
 have HB := a_ (Below.refl w.heap.size w)
 obtain ⟨t1, A10, H⟩ := Option.bind_eq_some_iff.mp (show ((pack_Number.f k (IntKind.u64.wrap ((l0.length : Int)))).bind fun t => (if (⟨#[]⟩ : ByteArray).size + t.size ≤ 140737488355328 then (wal_Ints.l0 k ((⟨#[]⟩ : ByteArray) ++ t) l0 (l0.length : Int) 0) else none)) = some r from h)
 have A1 := a_ A10
 clear h A10
 by_cases c1 : (⟨#[]⟩ : ByteArray).size + t1.size ≤ 140737488355328
 case neg => rw [if_neg c1] at H; exact absurd H (by simp)
 rw [if_pos c1] at H
 have L1 := a_ c1
 clear c1
 have H' := a_ H
 clear H
 go_enter Try.func75, Try.ntmps75
 go_wp2_with (first | ((with_reducible refine gd_ 3 ?_); refine bx_ 3 #[.pointer none, .slice none 0 0] 73 ?_; intro gb hg w_ hbox hb; have GE := a_ (bs_0 hg HB); have BI := a_ (Go.Proofs.Ytcdibodjkdoknaa.Bld.IsB.fresh GE.out hbox); replace HB := hB_ (bl_ HB) hb; clear hb hbox hg) | (go_at_call 73; (with_reducible refine (pack_Number.calls k (IntKind.u64.wrap ((l0.length : Int))) t1 _ A1.out).mono ?_); rintro e w4 ⟨rfl, hb⟩; replace BI := a_ (Go.Proofs.Ytcdibodjkdoknaa.Bld.IsB.below BI.out hb); replace HB := hB_ (bl_ HB) hb; clear hb) | (go_at_call 72; refine (Go.Proofs.Ytcdibodjkdoknaa.Bld.write w.heap.size gb ⟨#[]⟩ t1 _ BI.out L1.out HB.out.size).mono ?_; rintro e w5 ⟨rfl, bi, hb⟩; replace BI := a_ bi; replace HB := a_ (HB.out.trans hb); clear bi hb))
 go_loopg [13] k (fun kq v13 w' => ∃ (s : ByteArray) (x13 : Int), v13 = .int .i64 x13 ∧ Aside0 (wal_Ints.l0 kq s l0 (l0.length : Int) x13 = some r) ∧ Aside0 (kq ≤ k) ∧ Aside0 (Go.Proofs.Ytcdibodjkdoknaa.Bld.IsB w' w.heap.size gb s) ∧ Aside0 (Below w.heap.size w w'))
 case atStart => exact ⟨_, 0, fz_, H', ⟨Nat.le_refl _⟩, BI, ⟨bl_ HB⟩⟩
 case round =>
  clear H' BI HB
  obtain ⟨s, x13, rfl, HA, HK1, BI, HB⟩ := hrel
  cases gk with
  | zero => exact absurd HA.out (by simp [wal_Ints.l0])
  | succ k1 =>
   have H := HA.out
   clear HA
   simp only [wal_Ints.l0] at H
   by_cases c3 : x13 < (l0.length : Int)
   rotate_left
   ·rw [if_neg c3] at H
    have c3b0 : decide (x13 < (l0.length : Int)) = false := decide_eq_false c3
    clear c3
    obtain rfl := Option.some.inj H
    go_wp2_with (first | (go_at_call 45; refine (Go.Proofs.Ytcdibodjkdoknaa.Bld.str w.heap.size gb s _ BI.out HB.out.size).mono ?_; rintro e w5 ⟨rfl, hb⟩; replace HB := a_ (HB.out.trans hb); clear hb))
    go_ret
    exact ⟨fz_, bl_ HB⟩


   rw [if_pos c3] at H
   have c3b0 : decide (x13 < (l0.length : Int)) = true := decide_eq_true c3
   by_cases c4 : 0 ≤ x13
   rotate_left
   ·rw [if_neg c4] at H
    exact absurd H (by simp)
   rw [if_pos c4, if_pos c3] at H
   have c4b0 : decide (0 ≤ x13) = true := decide_eq_true c4
   obtain ⟨t2, A20, H⟩ := Option.bind_eq_some_iff.mp H
   have A2 := a_ A20
   clear A20
   by_cases c5 : s.size + t2.size ≤ 140737488355328
   case neg => rw [if_neg c5] at H; exact absurd H (by simp)
   rw [if_pos c5] at H
   have L5 := a_ c5
   clear c5
   have H' := a_ H
   clear H
   obtain ⟨ad240, e240, hx240_0⟩ := Kd.at_int HR0.out x13 c4 c3
   cases e240
   replace hx240_0 := hc_ HB hx240_0
   replace c4 := eq_true c4
   replace c3 := eq_true c3
   go_wp2_with (first | (go_at_call 73; (with_reducible refine (pack_Number.calls k1 (IntKind.u64.wrap (rd l0 x13)) t2 _ A2.out).mono ?_); rintro e w4 ⟨rfl, hb⟩; replace BI := a_ (Go.Proofs.Ytcdibodjkdoknaa.Bld.IsB.below BI.out hb); replace HB := hB_ (bl_ HB) hb; clear hb) | (go_at_call 72; refine (Go.Proofs.Ytcdibodjkdoknaa.Bld.write w.heap.size gb s t2 _ BI.out L5.out HB.out.size).mono ?_; rintro e w5 ⟨rfl, bi, hb⟩; replace BI := a_ bi; replace HB := a_ (HB.out.trans hb); clear bi hb))
   go_roundg k1
   case measure => have := HK1.out; omega
   case rel => exact ⟨_, (wrap64 (x13 + 1)), fz_, H', ⟨by have := HK1.out; omega⟩, BI, ⟨bl_ HB⟩⟩
def wal_Bytes.f (k : Nat) (a0_0 a0_1 a0_2 : Int) (a0_3 : ByteArray) (l0_4 : List Int) : Option ByteArray := (pack_Number.f k a0_0).bind fun t1 => (pack_Number.f k a0_1).bind fun t2 => (pack_Number.f k (IntKind.u64.wrap a0_2)).bind fun t3 => (pack_Text.f k a0_3).bind fun t4 => (wal_Ints.f k l0_4).bind fun t5 => (if t1.size + t2.size + t3.size + t4.size + t5.size ≤ 140737488355328 then (some (t1 ++ t2 ++ t3 ++ t4 ++ t5)) else none)
theorem wal_Bytes.mono : ∀ a0 a1 a2 a3 a4 k, LeO (wal_Bytes.f k a0 a1 a2 a3 a4) (wal_Bytes.f (k + 1) a0 a1 a2 a3 a4) := by
 intro a0 a1 a2 a3 a4 k
 unfold wal_Bytes.f
 repeat' with_reducible first | apply pack_Number.mono | apply pack_Text.mono | apply wal_Ints.mono | apply LeO.refl | apply LeO.none | apply LeO.ite | refine LeO.bind ?_ (fun _ => ?_)
theorem isb_lt {w : World} {B b : Nat} {s : ByteArray} (h : Go.Proofs.Ytcdibodjkdoknaa.Bld.IsB w B b s) : b < w.heap.size := h.elim (fun x => x.lt) (fun x => x.lt)
theorem below_up {B C : Nat} {w w' : World} (h : Below C w w') (hBC : B ≤ C) : Below B w w' := ⟨h.os, h.tape, h.output, h.size, fun k hk => h.block k (Nat.lt_of_lt_of_le hk hBC)⟩
theorem blk_up {w w' : World} {C g : Nat} {o : Obj} (h : Aside0 (w.heap[g]? = some o)) (hb : Below C w w') (hg : g < C) : Aside0 (w'.heap[g]? = some o) := ⟨(hb.block g hg).trans h.out⟩
theorem blk_lt {w : World} {g : Nat} {o : Obj} (h : w.heap[g]? = some o) : g < w.heap.size := (Array.getElem?_eq_some_iff.mp h).1
def pre3 (t1 t2 t3 : ByteArray) (j : Nat) : ByteArray := if j = 0 then ⟨#[]⟩ else if j = 1 then t1 else if j = 2 then t1 ++ t2 else t1 ++ t2 ++ t3
theorem pre3_0 (a b c : ByteArray) : (pre3 a b c 0).size = 0 := rfl
theorem pre3_1 (a b c : ByteArray) : (pre3 a b c 1).size = a.size := rfl
theorem pre3_2 (a b c : ByteArray) : (pre3 a b c 2).size = a.size + b.size := ByteArray.size_append
theorem pre3_3 (a b c : ByteArray) : (pre3 a b c 3).size = a.size + b.size + c.size := by show (a ++ b ++ c).size = _; rw [ByteArray.size_append, ByteArray.size_append]
theorem pre3_n0 (a b c : ByteArray) : pre3 a b c 0 ++ a = pre3 a b c 1 := by show (⟨#[]⟩ : ByteArray) ++ a = a; apply ByteArray.ext; simp
theorem pre3_n1 (a b c : ByteArray) : pre3 a b c 1 ++ b = pre3 a b c 2 := rfl
theorem pre3_n2 (a b c : ByteArray) : pre3 a b c 2 ++ c = pre3 a b c 3 := rfl
theorem wal_Bytes.calls (k : Nat) (a0_0 : Int) (a0_1 : Int) (a0_2 : Int) (a0_3 : ByteArray) (A0_4 : Option Addr) (c0_4 : Nat) (l0_4 : List Int) (r : ByteArray) (w : World) (hr0_4 : Kd.C (Kd.int .i64) w A0_4 l0_4.length l0_4) (hc0_4 : l0_4.length ≤ c0_4) (h : wal_Bytes.f k a0_0 a0_1 a0_2 a0_3 l0_4 = some r) :
  Calls Try.prog 43 #[.agg #[.int .u64 a0_0, .int .u64 a0_1, .int .u8 a0_2, .string a0_3, .slice A0_4 l0_4.length c0_4]] w fun e w' => e = .returned (.string r) ∧ Below w.heap.size w w' := by
 have HR0_4 := a_ hr0_4
 have HC0_4 := a_ hc0_4
 clear hr0_4 hc0_4
 have HB := a_ (Below.refl w.heap.size w)
 have H : ∃ t1, pack_Number.f k a0_0 = some t1 ∧ ∃ t2, pack_Number.f k a0_1 = some t2 ∧ ∃ t3, pack_Number.f k (IntKind.u64.wrap a0_2) = some t3 ∧ ∃ t4, pack_Text.f k a0_3 = some t4 ∧ ∃ t5, wal_Ints.f k l0_4 = some t5 ∧ (if t1.size + t2.size + t3.size + t4.size + t5.size ≤ 140737488355328 then (some (t1 ++ t2 ++ t3 ++ t4 ++ t5)) else none) = some r := by simpa only [wal_Bytes.f, Option.bind_eq_some_iff] using h
 obtain ⟨t1, A10, t2, A20, t3, A30, t4, A40, t5, A50, H⟩ := H
 have A1 := a_ A10
 have A2 := a_ A20
 have A3 := a_ A30
 have A4 := a_ A40
 have A5 := a_ A50
 clear h A10 A20 A30 A40 A50
 by_cases c1 : t1.size + t2.size + t3.size + t4.size + t5.size ≤ 140737488355328
 case neg => rw [if_neg c1] at H; cases H
 rw [if_pos c1] at H
 obtain rfl := Option.some.inj H
 clear H
 have L1 := a_ c1
 clear c1
 have hu67 := Try.underlying67
 go_enter Try.func43, Try.ntmps43
 go_wp2_with (first | ((with_reducible refine gd_ 1 ?_); refine bx_ 1 #[.int .u64 a0_0, .int .u64 a0_1, .int .u8 a0_2, .string a0_3, .slice A0_4 l0_4.length c0_4] 67 ?_; intro ge hg w_ hbox hb; have BKe := a_ hbox; have GEe := a_ (bs_0 hg HB); replace HB := hB_ (bl_ HB) hb; clear hb hbox hg) | ((with_reducible refine gd_ 3 ?_); refine bx_ 3 #[.pointer none, .slice none 0 0] 73 ?_; intro gb hg w_ hbox hb; have GEb := a_ (bs_1 hg HB GEe); have NBe_b := nB_ hg BKe; have NBb_e := nC_ hg BKe; have GLT := a_ (show ge < gb from by rw [hg]; exact blk_lt (bk_ BKe)); have BI := a_ (Go.Proofs.Ytcdibodjkdoknaa.Bld.IsB.fresh (Nat.le_refl gb) hbox); replace BKe := bB_ BKe hb; replace HB := hB_ (bl_1 HB GEe) hb; clear hb hbox hg; obtain ⟨hc1_0, hc1_1, hc1_2, hc1_3, hc1_4, hf1_0, hf1_1, hf1_2, hf1_3, hf1_4⟩ := c5_ BKe; have hn1 := NBe_b.out; have hn2 := NBb_e.out))
 have GS := a_ (Nat.le_of_lt (isb_lt BI.out))
 have hi0 : ∀ W, (Instr.index 112 (.agg #[.int .u64 a0_0, .int .u64 a0_1, .int .u64 (IntKind.u64.wrap a0_2)]) (.int .i64 0)).run Try.prog W = .ok (.int .u64 a0_0) W := fun W => by kernel_rfl
 have hi1 : ∀ W, (Instr.index 112 (.agg #[.int .u64 a0_0, .int .u64 a0_1, .int .u64 (IntKind.u64.wrap a0_2)]) (.int .i64 1)).run Try.prog W = .ok (.int .u64 a0_1) W := fun W => by kernel_rfl
 have hi2 : ∀ W, (Instr.index 112 (.agg #[.int .u64 a0_0, .int .u64 a0_1, .int .u64 (IntKind.u64.wrap a0_2)]) (.int .i64 2)).run Try.prog W = .ok (.int .u64 (IntKind.u64.wrap a0_2)) W := fun W => by kernel_rfl
 go_loopg [14] 3 (fun g v14 w' => ∃ j : Nat, j + g = 3 ∧ v14 = .int .i64 (j : Int) ∧ Aside0 (Go.Proofs.Ytcdibodjkdoknaa.Bld.IsB w' gb gb (pre3 t1 t2 t3 j)) ∧ Aside0 (gb ≤ w'.heap.size) ∧ Aside0 (w'.heap[ge]? = some (.cells #[.int .u64 a0_0, .int .u64 a0_1, .int .u8 a0_2, .string a0_3, .slice A0_4 l0_4.length c0_4] 67 (0, 0))) ∧ Aside0 (Below w.heap.size w w'))
 case atStart => exact ⟨0, rfl, rfl, BI, GS, ⟨bk_ BKe⟩, ⟨bl_1 HB GEe⟩⟩
 case round =>
  clear BI BKe HB hc1_0 hc1_1 hc1_2 hc1_3 hc1_4 hf1_0 hf1_1 hf1_2 hf1_3 hf1_4
  clear GS
  obtain ⟨j, hj, rfl, BI, GS, BKe, HB⟩ := hrel
  obtain rfl | rfl | rfl | rfl : j = 0 ∨ j = 1 ∨ j = 2 ∨ j = 3 := by omega
  · go_wp2_with (first | (go_at_call 73; (with_reducible refine (pack_Number.calls k a0_0 t1 _ A1.out).mono ?_); rintro e w4 ⟨rfl, hb⟩; replace BI := a_ (Go.Proofs.Ytcdibodjkdoknaa.Bld.IsB.below BI.out hb); replace BKe := bB_ BKe hb; replace GS := a_ (Nat.le_trans GS.out hb.size); replace HB := hB_ (bl_1 HB GEe) hb; clear hb) | (go_at_call 72; (with_reducible refine (Go.Proofs.Ytcdibodjkdoknaa.Bld.write gb gb (pre3 t1 t2 t3 0) t1 _ BI.out ?sz GS.out).mono ?_); (case sz => have := L1.out; have p0 := pre3_0 t1 t2 t3; have p1 := pre3_1 t1 t2 t3; have p2 := pre3_2 t1 t2 t3; have p3 := pre3_3 t1 t2 t3; (try rw [ByteArray.size_append]); (try rw [ByteArray.size_append]); omega); rintro e w5 ⟨rfl, bi, hb⟩; replace BI := a_ bi; replace BKe := blk_up BKe hb GLT.out; replace GS := a_ (Nat.le_trans GS.out hb.size); replace HB := a_ (HB.out.trans (below_up hb GEb.out)); clear bi hb))
    go_roundg 2
    case measure => omega
    case rel => exact ⟨1, rfl, fz_, (pre3_n0 t1 t2 t3 ▸ BI), GS, ⟨bk_ BKe⟩, ⟨bl_1 HB GEe⟩⟩
  · go_wp2_with (first | (go_at_call 73; (with_reducible refine (pack_Number.calls k a0_1 t2 _ A2.out).mono ?_); rintro e w4 ⟨rfl, hb⟩; replace BI := a_ (Go.Proofs.Ytcdibodjkdoknaa.Bld.IsB.below BI.out hb); replace BKe := bB_ BKe hb; replace GS := a_ (Nat.le_trans GS.out hb.size); replace HB := hB_ (bl_1 HB GEe) hb; clear hb) | (go_at_call 72; (with_reducible refine (Go.Proofs.Ytcdibodjkdoknaa.Bld.write gb gb (pre3 t1 t2 t3 1) t2 _ BI.out ?sz GS.out).mono ?_); (case sz => have := L1.out; have p0 := pre3_0 t1 t2 t3; have p1 := pre3_1 t1 t2 t3; have p2 := pre3_2 t1 t2 t3; have p3 := pre3_3 t1 t2 t3; (try rw [ByteArray.size_append]); (try rw [ByteArray.size_append]); omega); rintro e w5 ⟨rfl, bi, hb⟩; replace BI := a_ bi; replace BKe := blk_up BKe hb GLT.out; replace GS := a_ (Nat.le_trans GS.out hb.size); replace HB := a_ (HB.out.trans (below_up hb GEb.out)); clear bi hb))
    go_roundg 1
    case measure => omega
    case rel => exact ⟨2, rfl, fz_, (pre3_n1 t1 t2 t3 ▸ BI), GS, ⟨bk_ BKe⟩, ⟨bl_1 HB GEe⟩⟩
  · go_wp2_with (first | (go_at_call 73; (with_reducible refine (pack_Number.calls k (IntKind.u64.wrap a0_2) t3 _ A3.out).mono ?_); rintro e w4 ⟨rfl, hb⟩; replace BI := a_ (Go.Proofs.Ytcdibodjkdoknaa.Bld.IsB.below BI.out hb); replace BKe := bB_ BKe hb; replace GS := a_ (Nat.le_trans GS.out hb.size); replace HB := hB_ (bl_1 HB GEe) hb; clear hb) | (go_at_call 72; (with_reducible refine (Go.Proofs.Ytcdibodjkdoknaa.Bld.write gb gb (pre3 t1 t2 t3 2) t3 _ BI.out ?sz GS.out).mono ?_); (case sz => have := L1.out; have p0 := pre3_0 t1 t2 t3; have p1 := pre3_1 t1 t2 t3; have p2 := pre3_2 t1 t2 t3; have p3 := pre3_3 t1 t2 t3; (try rw [ByteArray.size_append]); (try rw [ByteArray.size_append]); omega); rintro e w5 ⟨rfl, bi, hb⟩; replace BI := a_ bi; replace BKe := blk_up BKe hb GLT.out; replace GS := a_ (Nat.le_trans GS.out hb.size); replace HB := a_ (HB.out.trans (below_up hb GEb.out)); clear bi hb))
    go_roundg 0
    case measure => omega
    case rel => exact ⟨3, rfl, fz_, (pre3_n2 t1 t2 t3 ▸ BI), GS, ⟨bk_ BKe⟩, ⟨bl_1 HB GEe⟩⟩
  · obtain ⟨hc2_0, hc2_1, hc2_2, hc2_3, hc2_4, hf2_0, hf2_1, hf2_2, hf2_3, hf2_4⟩ := c5_ BKe
    go_wp2_with (first | (go_at_call 74; (with_reducible refine (pack_Text.calls k a0_3 t4 _ A4.out).mono ?_); rintro e w4 ⟨rfl, hb⟩; replace BI := a_ (Go.Proofs.Ytcdibodjkdoknaa.Bld.IsB.below BI.out hb); replace BKe := bB_ BKe hb; replace GS := a_ (Nat.le_trans GS.out hb.size); replace HB := hB_ (bl_1 HB GEe) hb; clear hb) | (go_at_call 75; (with_reducible refine (wal_Ints.calls k _ _ l0_4 t5 _ ?side1 ?side2 A5.out).mono ?_); (case side1 => exact cl_ (Kd.C_below HR0_4.out HB.out)); (case side2 => exact HC0_4.out); rintro e w4 ⟨rfl, hb⟩; replace BI := a_ (Go.Proofs.Ytcdibodjkdoknaa.Bld.IsB.below BI.out hb); replace BKe := bB_ BKe hb; replace GS := a_ (Nat.le_trans GS.out hb.size); replace HB := hB_ (bl_1 HB GEe) hb; clear hb) | (go_at_call 45; (with_reducible refine (Go.Proofs.Ytcdibodjkdoknaa.Bld.str gb gb (pre3 t1 t2 t3 3 ++ t4 ++ t5) _ BI.out GS.out).mono ?_); rintro e w5 ⟨rfl, hb⟩; replace HB := a_ (HB.out.trans (below_up hb GEb.out)); clear hb) | (go_at_call 72; (with_reducible refine (Go.Proofs.Ytcdibodjkdoknaa.Bld.write gb gb (pre3 t1 t2 t3 3) t4 _ BI.out ?sz GS.out).mono ?_); (case sz => have := L1.out; have p0 := pre3_0 t1 t2 t3; have p1 := pre3_1 t1 t2 t3; have p2 := pre3_2 t1 t2 t3; have p3 := pre3_3 t1 t2 t3; (try rw [ByteArray.size_append]); (try rw [ByteArray.size_append]); omega); rintro e w5 ⟨rfl, bi, hb⟩; replace BI := a_ bi; replace BKe := blk_up BKe hb GLT.out; replace GS := a_ (Nat.le_trans GS.out hb.size); replace HB := a_ (HB.out.trans (below_up hb GEb.out)); clear bi hb; obtain ⟨hc3_0, hc3_1, hc3_2, hc3_3, hc3_4, hf3_0, hf3_1, hf3_2, hf3_3, hf3_4⟩ := c5_ BKe) | (go_at_call 72; (with_reducible refine (Go.Proofs.Ytcdibodjkdoknaa.Bld.write gb gb (pre3 t1 t2 t3 3 ++ t4) t5 _ BI.out ?sz GS.out).mono ?_); (case sz => have := L1.out; have p0 := pre3_0 t1 t2 t3; have p1 := pre3_1 t1 t2 t3; have p2 := pre3_2 t1 t2 t3; have p3 := pre3_3 t1 t2 t3; (try rw [ByteArray.size_append]); (try rw [ByteArray.size_append]); omega); rintro e w5 ⟨rfl, bi, hb⟩; replace BI := a_ bi; replace BKe := blk_up BKe hb GLT.out; replace GS := a_ (Nat.le_trans GS.out hb.size); replace HB := a_ (HB.out.trans (below_up hb GEb.out)); clear bi hb; obtain ⟨hc4_0, hc4_1, hc4_2, hc4_3, hc4_4, hf4_0, hf4_1, hf4_2, hf4_3, hf4_4⟩ := c5_ BKe))
    go_ret
    exact ⟨rfl, bl_1 HB GEe⟩

def snap_Bytes.f (k : Nat) (a0_0 : Int) (a0_1 : Int) (l0_2 : List Int) (a0_3 : ByteArray) : Option (ByteArray) := (pack_Number.f k a0_0).bind fun t131 => ((pack_Number.f k a0_1).bind fun t132 => (if t131.size + t132.size ≤ 9223372036854775807 then ((wal_Ints.f k l0_2).bind fun t133 => (if (t131 ++ t132).size + t133.size ≤ 9223372036854775807 then ((pack_Text.f k a0_3).bind fun t134 => (if ((t131 ++ t132) ++ t133).size + t134.size ≤ 9223372036854775807 then (some (((t131 ++ t132) ++ t133) ++ t134)) else (none))) else (none))) else (none)))
theorem snap_Bytes.mono : ∀ a0 a1 a2 a3 k, LeO (snap_Bytes.f k a0 a1 a2 a3) (snap_Bytes.f (k + 1) a0 a1 a2 a3) := by
 intro a0 a1 a2 a3 k
 unfold snap_Bytes.f
 repeat' with_reducible first | apply pack_Number.mono | apply pack_Text.mono | apply wal_Ints.mono | apply LeO.refl | apply LeO.none | apply LeO.ite | refine LeO.bind ?_ (fun _ => ?_)
def snap_Bytes.T1 : Bool × List (List Nat × List Nat) := (true, [([], []), ([0], [0]), ([1], [1]), ([], []), ([3], [3]), ([4, 2], [4]), ([2, 5], [2, 5]), ([], []), ([7], [7]), ([8, 5], [8]), ([6, 9], [6, 9]), ([], []), ([11], [11]), ([12, 9], [12]), ([10, 13], [10, 13]), ([14, 13, 0, 1, 2, 3, 4, 5, 6, 7, 8, 9, 10, 11, 12, 13, 14], [14])])
def snap_Bytes.B1 : List Nat := [0, 1, 3, 0, 8, 31, 63, 0, 128, 447, 1023, 0, 2048, 7103, 16383, 32767]
theorem snap_Bytes.tab1 : rtab .any (opsOf Try.f44 1) = snap_Bytes.T1 := by kernel_rfl
theorem snap_Bytes.bits1 : waitsOk snap_Bytes.T1.2 snap_Bytes.B1 = true := by kernel_rfl
theorem snap_Bytes.calls (k : Nat) (a0_0 : Int) (a0_1 : Int) (A0_2 : Option Addr) (c0_2 : Nat) (l0_2 : List Int) (a0_3 : ByteArray) (r : ByteArray) (w : World) (hr0_2 : Kd.C (Kd.int .i64) w A0_2 l0_2.length l0_2) (hc0_2 : l0_2.length ≤ c0_2) (h : snap_Bytes.f k a0_0 a0_1 l0_2 a0_3 = some r) :
  Calls Try.prog 44 #[.agg #[.int .u64 a0_0, .int .u64 a0_1, .slice A0_2 l0_2.length c0_2, .string a0_3]] w fun e w' => e = .returned (.string r) ∧ Below w.heap.size w w' := by
 have hu_1 := Try.underlying35
 have HR_1 := a_ hr0_2
 have HC_1 := a_ hc0_2
 clear hr0_2 hc0_2
 have HB := a_ (Below.refl w.heap.size w)
 have H := h
 unfold snap_Bytes.f at H
 clear h
 obtain ⟨t_1, A_1, H⟩ := Option.bind_eq_some_iff.mp H
 try dsimp only at H
 have A_2 := a_ A_1
 clear A_1
 obtain ⟨t_2, A_3, H⟩ := Option.bind_eq_some_iff.mp H
 try dsimp only at H
 have A_4 := a_ A_3
 clear A_3
 by_cases c_1 : t_1.size + t_2.size ≤ 9223372036854775807
 rotate_left
 ·rw [if_neg c_1] at H
  exact absurd H (by simp)
 rw [if_pos c_1] at H
 have c_2 := eq_true c_1
 have c_3 : decide (t_1.size + t_2.size ≤ 9223372036854775807) = true := decide_eq_true c_1
 try have c_4 : (9223372036854775807 < t_1.size + t_2.size) = False := eq_false (Nat.not_lt.2 c_1)
 clear c_1
 obtain ⟨t_3, A_5, H⟩ := Option.bind_eq_some_iff.mp H
 try dsimp only at H
 have A_6 := a_ A_5
 clear A_5
 by_cases c_5 : (t_1 ++ t_2).size + t_3.size ≤ 9223372036854775807
 rotate_left
 ·rw [if_neg c_5] at H
  exact absurd H (by simp)
 rw [if_pos c_5] at H
 have c_6 := eq_true c_5
 have c_7 : decide ((t_1 ++ t_2).size + t_3.size ≤ 9223372036854775807) = true := decide_eq_true c_5
 try have c_8 : (9223372036854775807 < (t_1 ++ t_2).size + t_3.size) = False := eq_false (Nat.not_lt.2 c_5)
 clear c_5
 obtain ⟨t_4, A_7, H⟩ := Option.bind_eq_some_iff.mp H
 try dsimp only at H
 have A_8 := a_ A_7
 clear A_7
 by_cases c_9 : ((t_1 ++ t_2) ++ t_3).size + t_4.size ≤ 9223372036854775807
 rotate_left
 ·rw [if_neg c_9] at H
  exact absurd H (by simp)
 rw [if_pos c_9] at H
 have c_10 := eq_true c_9
 have c_11 : decide (((t_1 ++ t_2) ++ t_3).size + t_4.size ≤ 9223372036854775807) = true := decide_eq_true c_9
 try have c_12 : (9223372036854775807 < ((t_1 ++ t_2) ++ t_3).size + t_4.size) = False := eq_false (Nat.not_lt.2 c_9)
 clear c_9
 obtain rfl := Option.some.inj H
 (try (have c_13 := c_6; simp only [ByteArray.size_extract, ByteArray.size_append, Nat.min_self, Nat.sub_zero] at c_13))
 (try (have c_14 := c_7; simp only [ByteArray.size_extract, ByteArray.size_append, Nat.min_self, Nat.sub_zero] at c_14))
 (try (have c_15 := c_8; simp only [ByteArray.size_extract, ByteArray.size_append, Nat.min_self, Nat.sub_zero] at c_15))
 (try (have c_16 := c_10; simp only [ByteArray.size_extract, ByteArray.size_append, Nat.min_self, Nat.sub_zero] at c_16))
 (try (have c_17 := c_11; simp only [ByteArray.size_extract, ByteArray.size_append, Nat.min_self, Nat.sub_zero] at c_17))
 (try (have c_18 := c_12; simp only [ByteArray.size_extract, ByteArray.size_append, Nat.min_self, Nat.sub_zero] at c_18))
 go_enter Try.func44, Try.ntmps44
 try go_wp2_with (first | ((with_reducible refine gd_ 1 ?_); refine bx_ 1 #[.int .u64 a0_0, .int .u64 a0_1, .slice A0_2 l0_2.length c0_2, .string a0_3] 35 ?_; intro gb_1 hg w_1 hbox hb; have BK_1 := a_ (hbox); have GE_1 := a_ (bs_0 hg HB); replace HB := hB_ (bl_ HB) hb; clear hb hbox hg))
 replace BK_1 := a_ (blk_drew BK_1.out)
 replace HB := a_ (below_drew1 HB.out)
 refine start_ (n := 16) (S := fun w' => w'.cell? ⟨gb_1, 0, none⟩ = some (.int .u64 a0_0) ∧ w'.cell? ⟨gb_1, 1, none⟩ = some (.int .u64 a0_1) ∧ w'.cell? ⟨gb_1, 2, none⟩ = some (.slice A0_2 l0_2.length c0_2) ∧ w'.cell? ⟨gb_1, 3, none⟩ = some (.string a0_3)) (ds := []) #[false, false, false, false, false, false, false, false, false, false, false, false, false, false, false, false] (by kernel_rfl) rfl rfl ⟨(blk_cell BK_1.out 0).trans rfl, (blk_cell BK_1.out 1).trans rfl, (blk_cell BK_1.out 2).trans rfl, (blk_cell BK_1.out 3).trans rfl⟩ (fun hHeld => ?_); refine with_tabW snap_Bytes.tab1 snap_Bytes.bits1 (fun HT_ HW_ => ?_)
 generalize w_1.drew = w_2 at BK_1 HB hHeld ⊢
 refine py_ HT_ 0 (some 3) ?_
 refine py_ HT_ 3 (some 6) ?_
 refine py_ HT_ 7 (some 10) ?_
 refine py_ HT_ 11 (some 14) ?_
 refine ty_ HT_ HW_ 1 (some 4) hHeld ?_
 refine ty_ HT_ HW_ 4 (some 7) hHeld ?_
 refine ty_ HT_ HW_ 8 (some 11) hHeld ?_
 refine ty_ HT_ HW_ 12 (some 15) hHeld ?_
 refine on_ HT_ 2 (some 5) (fun K hK => ?_)
 refine goes_ Try.func73 (by kernel_rfl) rfl #[.int .u64 a0_0] (by rfl) rfl rfl (ar_) ?_
 with_reducible refine (pack_Number.calls k a0_0 t_1 _ A_2.out).mono ?_
 rintro e w_3 ⟨rfl, hb⟩
 refine ⟨_, rfl, ?_⟩
 replace BK_1 := bB_ BK_1 hb
 replace HB := hB_ (bl_1 HB GE_1) hb
 clear hb
 refine hK.out _ _ ⟨(blk_cell BK_1.out 0).trans rfl, (blk_cell BK_1.out 1).trans rfl, (blk_cell BK_1.out 2).trans rfl, (blk_cell BK_1.out 3).trans rfl⟩ (fun hHeld => ?_)
 clear hK K
 refine nop_ ?_
 refine on_ HT_ 5 (some 8) (fun K hK => ?_)
 refine goes_ Try.func73 (by kernel_rfl) rfl #[.int .u64 a0_1] (by rfl) rfl rfl (ar_) ?_
 with_reducible refine (pack_Number.calls k a0_1 t_2 _ A_4.out).mono ?_
 rintro e w_4 ⟨rfl, hb⟩
 refine ⟨_, rfl, ?_⟩
 replace BK_1 := bB_ BK_1 hb
 replace HB := hB_ (bl_1 HB GE_1) hb
 clear hb
 refine hK.out _ _ ⟨(blk_cell BK_1.out 0).trans rfl, (blk_cell BK_1.out 1).trans rfl, (blk_cell BK_1.out 2).trans rfl, (blk_cell BK_1.out 3).trans rfl⟩ (fun hHeld => ?_)
 clear hK K
 refine nop_ ?_
 refine py_ HT_ 6 (some 9) ?_
 refine on_ HT_ 9 (some 12) (fun K hK => ?_)
 refine goes_ Try.func75 (by kernel_rfl) rfl #[.slice A0_2 l0_2.length c0_2] (by rfl) rfl rfl (ar_) ?_
 with_reducible refine (wal_Ints.calls k _ _ l0_2 t_3 _ ?side1 ?side2 A_6.out).mono ?_
 (case side1 => exact cl_ (Kd.C_below HR_1.out HB.out))
 (case side2 => exact HC_1.out)
 rintro e w_5 ⟨rfl, hb⟩
 refine ⟨_, rfl, ?_⟩
 replace BK_1 := bB_ BK_1 hb
 replace HB := hB_ (bl_1 HB GE_1) hb
 clear hb
 refine hK.out _ _ ⟨(blk_cell BK_1.out 0).trans rfl, (blk_cell BK_1.out 1).trans rfl, (blk_cell BK_1.out 2).trans rfl, (blk_cell BK_1.out 3).trans rfl⟩ (fun hHeld => ?_)
 clear hK K
 refine nop_ ?_
 refine py_ HT_ 10 (some 13) ?_
 refine on_ HT_ 13 (some 16) (fun K hK => ?_)
 refine goes_ Try.func74 (by kernel_rfl) rfl #[.string a0_3] (by rfl) rfl rfl (ar_) ?_
 with_reducible refine (pack_Text.calls k a0_3 t_4 _ A_8.out).mono ?_
 rintro e w_6 ⟨rfl, hb⟩
 refine ⟨_, rfl, ?_⟩
 replace BK_1 := bB_ BK_1 hb
 replace HB := hB_ (bl_1 HB GE_1) hb
 clear hb
 refine hK.out _ _ ⟨(blk_cell BK_1.out 0).trans rfl, (blk_cell BK_1.out 1).trans rfl, (blk_cell BK_1.out 2).trans rfl, (blk_cell BK_1.out 3).trans rfl⟩ (fun hHeld => ?_)
 clear hK K
 refine nop_ ?_
 refine py_ HT_ 14 (some 17) ?_
 refine py_ HT_ 15 (some 2) ?_
 refine done_ (done_of HT_.out (by kernel_rfl)) ?_
 try go_wp2
 go_ret
 exact ⟨fz_, bl_1 HB GE_1⟩

end Go.Proofs.Ytcdibodjkdoknaa.PM
