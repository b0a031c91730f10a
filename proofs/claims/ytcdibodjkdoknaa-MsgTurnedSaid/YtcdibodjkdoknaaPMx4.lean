-- Written for this claim by a program of this session. Lean checks it.
import Derived.Test.YtcdibodjkdoknaaPMx0
import Derived.Test.YtcdibodjkdoknaaPMx2
import Derived.Test.YtcdibodjkdoknaaPMx3
namespace Go.Proofs.Ytcdibodjkdoknaa.PM
open Go.RowKit Go.Proofs.YtcdibodjkdoknaaW.PrintWords Go.Proofs.YtcdibodjkdoknaaW.PrintLast Go.Proofs.YtcdibodjkdoknaaW.PrintMore Go.Proofs.Ytcdibodjkdoknaa.Sh Go.Proofs.Ytcdibodjkdoknaa.Op
attribute [local go_sem] max2_int min2_int max_two min_two max_three min_three max_four min_four   -- for this text's walks alone
set_option linter.unusedVariables false
set_option maxHeartbeats 80000000
set_option maxRecDepth 100000
set_option linter.unusedSimpArgs false

/-! ### msg_Check: function 19 -/
mutual
def msg_Check.j0 : Nat → Bool → Int → Int → Int → Int → Int → Bool → List (S67) → Int → Int → List Int → ByteArray → Option (Int)
 | 0, _, _, _, _, _, _, _, _, _, _, _, _ => none
 | k + 1, x3, x118000, x118001, x118002, x118003, x118004, x118005, x118006, x118007, x118008, x118009, x118010 => if x118000 = 5 then (if x3 = true then ((snap_Check.f k x118007 x118008 x118009 x118010).bind fun t119 => (if t119 = 0 then (msg_Check.j1 k (decide (x118007 > 0)) x118000 x118001 x118002 x118003 x118004 x118005 x118006 x118007 x118008 x118009 x118010) else (msg_Check.j1 k false x118000 x118001 x118002 x118003 x118004 x118005 x118006 x118007 x118008 x118009 x118010))) else (msg_Check.j1 k false x118000 x118001 x118002 x118003 x118004 x118005 x118006 x118007 x118008 x118009 x118010)) else (msg_Check.j1 k x3 x118000 x118001 x118002 x118003 x118004 x118005 x118006 x118007 x118008 x118009 x118010)
def msg_Check.j1 : Nat → Bool → Int → Int → Int → Int → Int → Bool → List (S67) → Int → Int → List Int → ByteArray → Option (Int)
 | 0, _, _, _, _, _, _, _, _, _, _, _, _ => none
 | k + 1, x3, x118000, x118001, x118002, x118003, x118004, x118005, x118006, x118007, x118008, x118009, x118010 => msg_Check.l0 k x3 x118002 x118006 (x118006.length : Int) 0
def msg_Check.l0 : Nat → Bool → Int → List (S67) → Int → Int → Option (Int)
 | 0, _, _, _, _, _ => none
 | k + 1, x3, x4, x49, x50, x51 => if x51 < x50 then (if 0 ≤ x51 then (if x51 < (x49.length : Int) then ((wal_Check.f k ((rd_T67 x49 x51).f0) ((rd_T67 x49 x51).f1) ((rd_T67 x49 x51).f2) ((rd_T67 x49 x51).f3) ((rd_T67 x49 x51).f4)).bind fun t122 => (if t122 = 0 then (if ((rd_T67 x49 x51).f0) = (IntKind.u64.wrap (x4 + 1)) then (msg_Check.l0 k x3 (IntKind.u64.wrap (x4 + 1)) x49 x50 (wrap64 (x51 + 1))) else (some 4)) else (some 4))) else (none)) else (none)) else (if x3 = true then (some 0) else (some 4))
end
def msg_Check.f (k : Nat) (a0_0 : Int) (a0_1 : Int) (a0_2 : Int) (a0_3 : Int) (a0_4 : Int) (a0_5 : Bool) (l0_6 : List (S67)) (a0_7 : Int) (a0_8 : Int) (l0_9 : List Int) (a0_10 : ByteArray) : Option (Int) := if a0_0 > 0 then (if a0_0 < 6 then (if a0_1 > 0 then ((msg_whole.f a0_0 a0_1 a0_2 a0_3 a0_4 a0_5 l0_6 a0_7 a0_8 l0_9 a0_10).bind fun t118 => (if t118 = true then (msg_Check.j0 k (decide ((l0_6.length : Int) ≤ 8)) a0_0 a0_1 a0_2 a0_3 a0_4 a0_5 l0_6 a0_7 a0_8 l0_9 a0_10) else (msg_Check.j0 k false a0_0 a0_1 a0_2 a0_3 a0_4 a0_5 l0_6 a0_7 a0_8 l0_9 a0_10))) else (msg_Check.j0 k false a0_0 a0_1 a0_2 a0_3 a0_4 a0_5 l0_6 a0_7 a0_8 l0_9 a0_10)) else (msg_Check.j0 k false a0_0 a0_1 a0_2 a0_3 a0_4 a0_5 l0_6 a0_7 a0_8 l0_9 a0_10)) else (msg_Check.j0 k false a0_0 a0_1 a0_2 a0_3 a0_4 a0_5 l0_6 a0_7 a0_8 l0_9 a0_10)
theorem msg_Check.mono_l : ∀ k, (∀ y0 y1 y2 y3 y4 y5 y6 y7 y8 y9 y10 y11, LeO (msg_Check.j0 k y0 y1 y2 y3 y4 y5 y6 y7 y8 y9 y10 y11) (msg_Check.j0 (k + 1) y0 y1 y2 y3 y4 y5 y6 y7 y8 y9 y10 y11)) ∧ (∀ y0 y1 y2 y3 y4 y5 y6 y7 y8 y9 y10 y11, LeO (msg_Check.j1 k y0 y1 y2 y3 y4 y5 y6 y7 y8 y9 y10 y11) (msg_Check.j1 (k + 1) y0 y1 y2 y3 y4 y5 y6 y7 y8 y9 y10 y11)) ∧ (∀ y0 y1 y2 y3 y4, LeO (msg_Check.l0 k y0 y1 y2 y3 y4) (msg_Check.l0 (k + 1) y0 y1 y2 y3 y4))
 | 0 => ⟨fun _ _ _ _ _ _ _ _ _ _ _ _ r h => by simp [msg_Check.j0] at h, fun _ _ _ _ _ _ _ _ _ _ _ _ r h => by simp [msg_Check.j1] at h, fun _ _ _ _ _ r h => by simp [msg_Check.l0] at h⟩
 | k + 1 => by
  obtain ⟨ih0, ih1, ih2⟩ := msg_Check.mono_l k
  refine ⟨?_, ?_, ?_⟩
  ·intro y0 y1 y2 y3 y4 y5 y6 y7 y8 y9 y10 y11
   unfold msg_Check.j0
   repeat' with_reducible first | exact ih0 _ _ _ _ _ _ _ _ _ _ _ _ | exact ih1 _ _ _ _ _ _ _ _ _ _ _ _ | exact ih2 _ _ _ _ _ | exact snap_Check.mono _ _ _ _ _ | exact wal_Check.mono _ _ _ _ _ _ | exact LeO.refl _ | exact LeO.none _ | refine LeO.ite ?_ ?_ | refine LeO.bind ?_ (fun _ => ?_)
  ·intro y0 y1 y2 y3 y4 y5 y6 y7 y8 y9 y10 y11
   unfold msg_Check.j1
   repeat' with_reducible first | exact ih0 _ _ _ _ _ _ _ _ _ _ _ _ | exact ih1 _ _ _ _ _ _ _ _ _ _ _ _ | exact ih2 _ _ _ _ _ | exact snap_Check.mono _ _ _ _ _ | exact wal_Check.mono _ _ _ _ _ _ | exact LeO.refl _ | exact LeO.none _ | refine LeO.ite ?_ ?_ | refine LeO.bind ?_ (fun _ => ?_)
  ·intro y0 y1 y2 y3 y4
   unfold msg_Check.l0
   repeat' with_reducible first | exact ih0 _ _ _ _ _ _ _ _ _ _ _ _ | exact ih1 _ _ _ _ _ _ _ _ _ _ _ _ | exact ih2 _ _ _ _ _ | exact snap_Check.mono _ _ _ _ _ | exact wal_Check.mono _ _ _ _ _ _ | exact LeO.refl _ | exact LeO.none _ | refine LeO.ite ?_ ?_ | refine LeO.bind ?_ (fun _ => ?_)
theorem msg_Check.mono : ∀ a0 a1 a2 a3 a4 a5 a6 a7 a8 a9 a10 k, LeO (msg_Check.f k a0 a1 a2 a3 a4 a5 a6 a7 a8 a9 a10) (msg_Check.f (k + 1) a0 a1 a2 a3 a4 a5 a6 a7 a8 a9 a10) := by
 intro a0 a1 a2 a3 a4 a5 a6 a7 a8 a9 a10 k
 obtain ⟨ih0, ih1, ih2⟩ := msg_Check.mono_l k
 unfold msg_Check.f
 repeat' with_reducible first | exact ih0 _ _ _ _ _ _ _ _ _ _ _ _ | exact ih1 _ _ _ _ _ _ _ _ _ _ _ _ | exact ih2 _ _ _ _ _ | exact snap_Check.mono _ _ _ _ _ | exact wal_Check.mono _ _ _ _ _ _ | exact LeO.refl _ | exact LeO.none _ | refine LeO.ite ?_ ?_ | refine LeO.bind ?_ (fun _ => ?_)
theorem msg_Check.calls (k : Nat) (a0_0 : Int) (a0_1 : Int) (a0_2 : Int) (a0_3 : Int) (a0_4 : Int) (a0_5 : Bool) (A0_6 : Option Addr) (c0_6 : Nat) (l0_6 : List (S67)) (a0_7 : Int) (a0_8 : Int) (A0_9 : Option Addr) (c0_9 : Nat) (l0_9 : List Int) (a0_10 : ByteArray) (r : Int) (w : World) (hr0_6 : Kd.C k67 w A0_6 l0_6.length l0_6) (hc0_6 : l0_6.length ≤ c0_6) (hr0_9 : Kd.C (Kd.int .i64) w A0_9 l0_9.length l0_9) (hc0_9 : l0_9.length ≤ c0_9) (h : msg_Check.f k a0_0 a0_1 a0_2 a0_3 a0_4 a0_5 l0_6 a0_7 a0_8 l0_9 a0_10 = some r) :
  Calls Try.prog 19 #[.agg #[.int .u8 a0_0, .int .u64 a0_1, .int .u64 a0_2, .int .u64 a0_3, .int .u64 a0_4, .bool a0_5, .slice A0_6 l0_6.length c0_6, .int .u64 a0_7, .int .u64 a0_8, .slice A0_9 l0_9.length c0_9, .string a0_10]] w fun e w' => e = .returned (.int .i64 r) ∧ Below w.heap.size w w' := by
 have hu37 := Try.underlying37
 have hu35 := Try.underlying35
 have hu67 := Try.underlying67
 have HR0_6 := a_ hr0_6
 have HC0_6 := a_ hc0_6
 clear hr0_6 hc0_6
 have HR0_9 := a_ hr0_9
 have HC0_9 := a_ hc0_9
 clear hr0_9 hc0_9
 have HB := a_ (Below.refl w.heap.size w)
 have H : (if a0_0 > 0 then (if a0_0 < 6 then (if a0_1 > 0 then ((msg_whole.f a0_0 a0_1 a0_2 a0_3 a0_4 a0_5 l0_6 a0_7 a0_8 l0_9 a0_10).bind fun t118 => (if t118 = true then (msg_Check.j0 k (decide ((l0_6.length : Int) ≤ 8)) a0_0 a0_1 a0_2 a0_3 a0_4 a0_5 l0_6 a0_7 a0_8 l0_9 a0_10) else (msg_Check.j0 k false a0_0 a0_1 a0_2 a0_3 a0_4 a0_5 l0_6 a0_7 a0_8 l0_9 a0_10))) else (msg_Check.j0 k false a0_0 a0_1 a0_2 a0_3 a0_4 a0_5 l0_6 a0_7 a0_8 l0_9 a0_10)) else (msg_Check.j0 k false a0_0 a0_1 a0_2 a0_3 a0_4 a0_5 l0_6 a0_7 a0_8 l0_9 a0_10)) else (msg_Check.j0 k false a0_0 a0_1 a0_2 a0_3 a0_4 a0_5 l0_6 a0_7 a0_8 l0_9 a0_10)) = some r := h
 clear h
 have HC2 := a_ H
 clear H
 go_enter Try.func19, Try.ntmps19
 go_upto_region 1 with (first | ((with_reducible refine gd_ 1 ?_); (try (refine gate_guard (by rfl) ?_; dsimp only)); refine bx_ 1 #[.int .u8 a0_0, .int .u64 a0_1, .int .u64 a0_2, .int .u64 a0_3, .int .u64 a0_4, .bool a0_5, .slice A0_6 l0_6.length c0_6, .int .u64 a0_7, .int .u64 a0_8, .slice A0_9 l0_9.length c0_9, .string a0_10] 37 ?_; intro gb117 hg w3 hbox hb; have BK117 := a_ (hbox); have GE117 := a_ (bs_0 hg HB); replace HB := hB_ (bl_ HB) hb; clear hb hbox hg))
 (try (go_step3; go_step))
 (try simp only [Act.put, List.setIfInBounds_toArray, List.set_cons_zero, List.set_cons_succ])
 go_cut [3] (fun v3 wc => ∃ (kq : Nat) (x3_1 : Bool), v3 = .bool x3_1 ∧ Aside0 (msg_Check.j0 kq x3_1 a0_0 a0_1 a0_2 a0_3 a0_4 a0_5 l0_6 a0_7 a0_8 l0_9 a0_10 = some r) ∧ Aside0 (kq ≤ k) ∧ Aside0 (wc.heap[gb117]? = some (.cells #[.int .u8 a0_0, .int .u64 a0_1, .int .u64 a0_2, .int .u64 a0_3, .int .u64 a0_4, .bool a0_5, (.slice A0_6 l0_6.length c0_6), .int .u64 a0_7, .int .u64 a0_8, (.slice A0_9 l0_9.length c0_9), .string a0_10] 37 (0, 0))) ∧ Aside0 (Below w.heap.size w wc))
 case first =>
  have H := HC2.out
  clear HC2
  by_cases c4 : a0_0 > 0
  rotate_left
  ·rw [if_neg c4] at H
   have c4b0 : decide (0 < a0_0) = false := decide_eq_false c4
   clear c4
   (first | rw [c4b0] | (simp only [i64_w, i32_w]; rw [c4b0]) | skip)
   have H' := a_ H
   clear H
   have hcz16_0 : w3.cell? ⟨gb117, 0, none⟩ = some (.int .u8 a0_0) := (blk_cell BK117.out 0).trans rfl
   have hcz16_1 : w3.cell? ⟨gb117, 1, none⟩ = some (.int .u64 a0_1) := (blk_cell BK117.out 1).trans rfl
   have hcz16_2 : w3.cell? ⟨gb117, 2, none⟩ = some (.int .u64 a0_2) := (blk_cell BK117.out 2).trans rfl
   have hcz16_3 : w3.cell? ⟨gb117, 3, none⟩ = some (.int .u64 a0_3) := (blk_cell BK117.out 3).trans rfl
   have hcz16_4 : w3.cell? ⟨gb117, 4, none⟩ = some (.int .u64 a0_4) := (blk_cell BK117.out 4).trans rfl
   have hcz16_5 : w3.cell? ⟨gb117, 5, none⟩ = some (.bool a0_5) := (blk_cell BK117.out 5).trans rfl
   have hcz16_6 : w3.cell? ⟨gb117, 6, none⟩ = some (.slice A0_6 l0_6.length c0_6) := (blk_cell BK117.out 6).trans rfl
   have hcz16_7 : w3.cell? ⟨gb117, 7, none⟩ = some (.int .u64 a0_7) := (blk_cell BK117.out 7).trans rfl
   have hcz16_8 : w3.cell? ⟨gb117, 8, none⟩ = some (.int .u64 a0_8) := (blk_cell BK117.out 8).trans rfl
   have hcz16_9 : w3.cell? ⟨gb117, 9, none⟩ = some (.slice A0_9 l0_9.length c0_9) := (blk_cell BK117.out 9).trans rfl
   have hcz16_10 : w3.cell? ⟨gb117, 10, none⟩ = some (.string a0_10) := (blk_cell BK117.out 10).trans rfl
   have hfz16_0 := blk_frozen BK117.out 0
   have hfz16_1 := blk_frozen BK117.out 1
   have hfz16_2 := blk_frozen BK117.out 2
   have hfz16_3 := blk_frozen BK117.out 3
   have hfz16_4 := blk_frozen BK117.out 4
   have hfz16_5 := blk_frozen BK117.out 5
   have hfz16_6 := blk_frozen BK117.out 6
   have hfz16_7 := blk_frozen BK117.out 7
   have hfz16_8 := blk_frozen BK117.out 8
   have hfz16_9 := blk_frozen BK117.out 9
   have hfz16_10 := blk_frozen BK117.out 10
   go_wp2
   repeat (go_step3; try (go_wp2))
   go_meet
   case rel => exact ⟨_, (false), fz_, H', ⟨by first | omega | exact Nat.le_refl _⟩, ⟨bk_ BK117⟩, ⟨bl_1 HB GE117⟩⟩
  rw [if_pos c4] at H
  have c4b0 : decide (0 < a0_0) = true := decide_eq_true c4
  clear c4
  (first | rw [c4b0] | (simp only [i64_w, i32_w]; rw [c4b0]) | skip)
  by_cases c5 : a0_0 < 6
  rotate_left
  ·rw [if_neg c5] at H
   have c5b0 : decide (a0_0 < 6) = false := decide_eq_false c5
   clear c5
   have H' := a_ H
   clear H
   have hcz15_0 : w3.cell? ⟨gb117, 0, none⟩ = some (.int .u8 a0_0) := (blk_cell BK117.out 0).trans rfl
   have hcz15_1 : w3.cell? ⟨gb117, 1, none⟩ = some (.int .u64 a0_1) := (blk_cell BK117.out 1).trans rfl
   have hcz15_2 : w3.cell? ⟨gb117, 2, none⟩ = some (.int .u64 a0_2) := (blk_cell BK117.out 2).trans rfl
   have hcz15_3 : w3.cell? ⟨gb117, 3, none⟩ = some (.int .u64 a0_3) := (blk_cell BK117.out 3).trans rfl
   have hcz15_4 : w3.cell? ⟨gb117, 4, none⟩ = some (.int .u64 a0_4) := (blk_cell BK117.out 4).trans rfl
   have hcz15_5 : w3.cell? ⟨gb117, 5, none⟩ = some (.bool a0_5) := (blk_cell BK117.out 5).trans rfl
   have hcz15_6 : w3.cell? ⟨gb117, 6, none⟩ = some (.slice A0_6 l0_6.length c0_6) := (blk_cell BK117.out 6).trans rfl
   have hcz15_7 : w3.cell? ⟨gb117, 7, none⟩ = some (.int .u64 a0_7) := (blk_cell BK117.out 7).trans rfl
   have hcz15_8 : w3.cell? ⟨gb117, 8, none⟩ = some (.int .u64 a0_8) := (blk_cell BK117.out 8).trans rfl
   have hcz15_9 : w3.cell? ⟨gb117, 9, none⟩ = some (.slice A0_9 l0_9.length c0_9) := (blk_cell BK117.out 9).trans rfl
   have hcz15_10 : w3.cell? ⟨gb117, 10, none⟩ = some (.string a0_10) := (blk_cell BK117.out 10).trans rfl
   have hfz15_0 := blk_frozen BK117.out 0
   have hfz15_1 := blk_frozen BK117.out 1
   have hfz15_2 := blk_frozen BK117.out 2
   have hfz15_3 := blk_frozen BK117.out 3
   have hfz15_4 := blk_frozen BK117.out 4
   have hfz15_5 := blk_frozen BK117.out 5
   have hfz15_6 := blk_frozen BK117.out 6
   have hfz15_7 := blk_frozen BK117.out 7
   have hfz15_8 := blk_frozen BK117.out 8
   have hfz15_9 := blk_frozen BK117.out 9
   have hfz15_10 := blk_frozen BK117.out 10
   go_wp2
   repeat (go_step3; try (go_wp2))
   go_meet
   case rel => exact ⟨_, (false), fz_, H', ⟨by first | omega | exact Nat.le_refl _⟩, ⟨bk_ BK117⟩, ⟨bl_1 HB GE117⟩⟩
  rw [if_pos c5] at H
  have c5b0 : decide (a0_0 < 6) = true := decide_eq_true c5
  clear c5
  by_cases c6 : a0_1 > 0
  rotate_left
  ·rw [if_neg c6] at H
   have c6b0 : decide (0 < a0_1) = false := decide_eq_false c6
   clear c6
   have H' := a_ H
   clear H
   have hcz14_0 : w3.cell? ⟨gb117, 0, none⟩ = some (.int .u8 a0_0) := (blk_cell BK117.out 0).trans rfl
   have hcz14_1 : w3.cell? ⟨gb117, 1, none⟩ = some (.int .u64 a0_1) := (blk_cell BK117.out 1).trans rfl
   have hcz14_2 : w3.cell? ⟨gb117, 2, none⟩ = some (.int .u64 a0_2) := (blk_cell BK117.out 2).trans rfl
   have hcz14_3 : w3.cell? ⟨gb117, 3, none⟩ = some (.int .u64 a0_3) := (blk_cell BK117.out 3).trans rfl
   have hcz14_4 : w3.cell? ⟨gb117, 4, none⟩ = some (.int .u64 a0_4) := (blk_cell BK117.out 4).trans rfl
   have hcz14_5 : w3.cell? ⟨gb117, 5, none⟩ = some (.bool a0_5) := (blk_cell BK117.out 5).trans rfl
   have hcz14_6 : w3.cell? ⟨gb117, 6, none⟩ = some (.slice A0_6 l0_6.length c0_6) := (blk_cell BK117.out 6).trans rfl
   have hcz14_7 : w3.cell? ⟨gb117, 7, none⟩ = some (.int .u64 a0_7) := (blk_cell BK117.out 7).trans rfl
   have hcz14_8 : w3.cell? ⟨gb117, 8, none⟩ = some (.int .u64 a0_8) := (blk_cell BK117.out 8).trans rfl
   have hcz14_9 : w3.cell? ⟨gb117, 9, none⟩ = some (.slice A0_9 l0_9.length c0_9) := (blk_cell BK117.out 9).trans rfl
   have hcz14_10 : w3.cell? ⟨gb117, 10, none⟩ = some (.string a0_10) := (blk_cell BK117.out 10).trans rfl
   have hfz14_0 := blk_frozen BK117.out 0
   have hfz14_1 := blk_frozen BK117.out 1
   have hfz14_2 := blk_frozen BK117.out 2
   have hfz14_3 := blk_frozen BK117.out 3
   have hfz14_4 := blk_frozen BK117.out 4
   have hfz14_5 := blk_frozen BK117.out 5
   have hfz14_6 := blk_frozen BK117.out 6
   have hfz14_7 := blk_frozen BK117.out 7
   have hfz14_8 := blk_frozen BK117.out 8
   have hfz14_9 := blk_frozen BK117.out 9
   have hfz14_10 := blk_frozen BK117.out 10
   go_wp2
   repeat (go_step3; try (go_wp2))
   go_meet
   case rel => exact ⟨_, (false), fz_, H', ⟨by first | omega | exact Nat.le_refl _⟩, ⟨bk_ BK117⟩, ⟨bl_1 HB GE117⟩⟩
  rw [if_pos c6] at H
  have c6b0 : decide (0 < a0_1) = true := decide_eq_true c6
  clear c6
  obtain ⟨t118, A70, H⟩ := Option.bind_eq_some_iff.mp H
  try dsimp only at H
  have A7 := a_ A70
  clear A70
  by_cases c8 : t118 = true
  rotate_left
  ·replace c8 := Bool.eq_false_iff.mpr c8
   subst c8
   have H1 : (msg_Check.j0 k false a0_0 a0_1 a0_2 a0_3 a0_4 a0_5 l0_6 a0_7 a0_8 l0_9 a0_10) = some r := by rw [if_neg (show ¬ (false = true) by decide)] at H; exact H
   clear H
   have H := H1
   clear H1
   have H' := a_ H
   clear H
   have hcz12_0 : w3.cell? ⟨gb117, 0, none⟩ = some (.int .u8 a0_0) := (blk_cell BK117.out 0).trans rfl
   have hcz12_1 : w3.cell? ⟨gb117, 1, none⟩ = some (.int .u64 a0_1) := (blk_cell BK117.out 1).trans rfl
   have hcz12_2 : w3.cell? ⟨gb117, 2, none⟩ = some (.int .u64 a0_2) := (blk_cell BK117.out 2).trans rfl
   have hcz12_3 : w3.cell? ⟨gb117, 3, none⟩ = some (.int .u64 a0_3) := (blk_cell BK117.out 3).trans rfl
   have hcz12_4 : w3.cell? ⟨gb117, 4, none⟩ = some (.int .u64 a0_4) := (blk_cell BK117.out 4).trans rfl
   have hcz12_5 : w3.cell? ⟨gb117, 5, none⟩ = some (.bool a0_5) := (blk_cell BK117.out 5).trans rfl
   have hcz12_6 : w3.cell? ⟨gb117, 6, none⟩ = some (.slice A0_6 l0_6.length c0_6) := (blk_cell BK117.out 6).trans rfl
   have hcz12_7 : w3.cell? ⟨gb117, 7, none⟩ = some (.int .u64 a0_7) := (blk_cell BK117.out 7).trans rfl
   have hcz12_8 : w3.cell? ⟨gb117, 8, none⟩ = some (.int .u64 a0_8) := (blk_cell BK117.out 8).trans rfl
   have hcz12_9 : w3.cell? ⟨gb117, 9, none⟩ = some (.slice A0_9 l0_9.length c0_9) := (blk_cell BK117.out 9).trans rfl
   have hcz12_10 : w3.cell? ⟨gb117, 10, none⟩ = some (.string a0_10) := (blk_cell BK117.out 10).trans rfl
   have hfz12_0 := blk_frozen BK117.out 0
   have hfz12_1 := blk_frozen BK117.out 1
   have hfz12_2 := blk_frozen BK117.out 2
   have hfz12_3 := blk_frozen BK117.out 3
   have hfz12_4 := blk_frozen BK117.out 4
   have hfz12_5 := blk_frozen BK117.out 5
   have hfz12_6 := blk_frozen BK117.out 6
   have hfz12_7 := blk_frozen BK117.out 7
   have hfz12_8 := blk_frozen BK117.out 8
   have hfz12_9 := blk_frozen BK117.out 9
   have hfz12_10 := blk_frozen BK117.out 10
   go_wp2_with (first | (go_at_call 35; (with_reducible refine (msg_whole.calls a0_0 a0_1 a0_2 a0_3 a0_4 a0_5 _ _ l0_6 a0_7 a0_8 _ _ l0_9 a0_10 false _ ?side1 ?side2 ?side3 ?side4 A7.out).mono ?_); (case side1 => exact cl_ (Kd.C_below HR0_6.out HB.out)); (case side2 => exact HC0_6.out); (case side3 => exact cl_ (Kd.C_below HR0_9.out HB.out)); (case side4 => exact HC0_9.out); rintro e w13 ⟨rfl, hb⟩; replace BK117 := bB_ BK117 hb; replace HB := hB_ (bl_1 HB GE117) hb; (try clear hb)))
   repeat (go_step3; try (go_wp2_with (first | (go_at_call 35; (with_reducible refine (msg_whole.calls a0_0 a0_1 a0_2 a0_3 a0_4 a0_5 _ _ l0_6 a0_7 a0_8 _ _ l0_9 a0_10 false _ ?side1 ?side2 ?side3 ?side4 A7.out).mono ?_); (case side1 => exact cl_ (Kd.C_below HR0_6.out HB.out)); (case side2 => exact HC0_6.out); (case side3 => exact cl_ (Kd.C_below HR0_9.out HB.out)); (case side4 => exact HC0_9.out); rintro e w13 ⟨rfl, hb⟩; replace BK117 := bB_ BK117 hb; replace HB := hB_ (bl_1 HB GE117) hb; (try clear hb)))))
   go_meet
   case rel => exact ⟨_, (false), fz_, H', ⟨by first | omega | exact Nat.le_refl _⟩, ⟨bk_ BK117⟩, ⟨bl_1 HB GE117⟩⟩
  subst c8
  have H1 : (msg_Check.j0 k (decide ((l0_6.length : Int) ≤ 8)) a0_0 a0_1 a0_2 a0_3 a0_4 a0_5 l0_6 a0_7 a0_8 l0_9 a0_10) = some r := by rw [if_pos rfl] at H; exact H
  clear H
  have H := H1
  clear H1
  have H' := a_ H
  clear H
  have hcz9_0 : w3.cell? ⟨gb117, 0, none⟩ = some (.int .u8 a0_0) := (blk_cell BK117.out 0).trans rfl
  have hcz9_1 : w3.cell? ⟨gb117, 1, none⟩ = some (.int .u64 a0_1) := (blk_cell BK117.out 1).trans rfl
  have hcz9_2 : w3.cell? ⟨gb117, 2, none⟩ = some (.int .u64 a0_2) := (blk_cell BK117.out 2).trans rfl
  have hcz9_3 : w3.cell? ⟨gb117, 3, none⟩ = some (.int .u64 a0_3) := (blk_cell BK117.out 3).trans rfl
  have hcz9_4 : w3.cell? ⟨gb117, 4, none⟩ = some (.int .u64 a0_4) := (blk_cell BK117.out 4).trans rfl
  have hcz9_5 : w3.cell? ⟨gb117, 5, none⟩ = some (.bool a0_5) := (blk_cell BK117.out 5).trans rfl
  have hcz9_6 : w3.cell? ⟨gb117, 6, none⟩ = some (.slice A0_6 l0_6.length c0_6) := (blk_cell BK117.out 6).trans rfl
  have hcz9_7 : w3.cell? ⟨gb117, 7, none⟩ = some (.int .u64 a0_7) := (blk_cell BK117.out 7).trans rfl
  have hcz9_8 : w3.cell? ⟨gb117, 8, none⟩ = some (.int .u64 a0_8) := (blk_cell BK117.out 8).trans rfl
  have hcz9_9 : w3.cell? ⟨gb117, 9, none⟩ = some (.slice A0_9 l0_9.length c0_9) := (blk_cell BK117.out 9).trans rfl
  have hcz9_10 : w3.cell? ⟨gb117, 10, none⟩ = some (.string a0_10) := (blk_cell BK117.out 10).trans rfl
  have hfz9_0 := blk_frozen BK117.out 0
  have hfz9_1 := blk_frozen BK117.out 1
  have hfz9_2 := blk_frozen BK117.out 2
  have hfz9_3 := blk_frozen BK117.out 3
  have hfz9_4 := blk_frozen BK117.out 4
  have hfz9_5 := blk_frozen BK117.out 5
  have hfz9_6 := blk_frozen BK117.out 6
  have hfz9_7 := blk_frozen BK117.out 7
  have hfz9_8 := blk_frozen BK117.out 8
  have hfz9_9 := blk_frozen BK117.out 9
  have hfz9_10 := blk_frozen BK117.out 10
  go_wp2_with (first | (go_at_call 35; (with_reducible refine (msg_whole.calls a0_0 a0_1 a0_2 a0_3 a0_4 a0_5 _ _ l0_6 a0_7 a0_8 _ _ l0_9 a0_10 true _ ?side1 ?side2 ?side3 ?side4 A7.out).mono ?_); (case side1 => exact cl_ (Kd.C_below HR0_6.out HB.out)); (case side2 => exact HC0_6.out); (case side3 => exact cl_ (Kd.C_below HR0_9.out HB.out)); (case side4 => exact HC0_9.out); rintro e w10 ⟨rfl, hb⟩; replace BK117 := bB_ BK117 hb; replace HB := hB_ (bl_1 HB GE117) hb; (try clear hb); have hcz11_0 : w10.cell? ⟨gb117, 0, none⟩ = some (.int .u8 a0_0) := (blk_cell BK117.out 0).trans rfl; have hcz11_1 : w10.cell? ⟨gb117, 1, none⟩ = some (.int .u64 a0_1) := (blk_cell BK117.out 1).trans rfl; have hcz11_2 : w10.cell? ⟨gb117, 2, none⟩ = some (.int .u64 a0_2) := (blk_cell BK117.out 2).trans rfl; have hcz11_3 : w10.cell? ⟨gb117, 3, none⟩ = some (.int .u64 a0_3) := (blk_cell BK117.out 3).trans rfl; have hcz11_4 : w10.cell? ⟨gb117, 4, none⟩ = some (.int .u64 a0_4) := (blk_cell BK117.out 4).trans rfl; have hcz11_5 : w10.cell? ⟨gb117, 5, none⟩ = some (.bool a0_5) := (blk_cell BK117.out 5).trans rfl; have hcz11_6 : w10.cell? ⟨gb117, 6, none⟩ = some (.slice A0_6 l0_6.length c0_6) := (blk_cell BK117.out 6).trans rfl; have hcz11_7 : w10.cell? ⟨gb117, 7, none⟩ = some (.int .u64 a0_7) := (blk_cell BK117.out 7).trans rfl; have hcz11_8 : w10.cell? ⟨gb117, 8, none⟩ = some (.int .u64 a0_8) := (blk_cell BK117.out 8).trans rfl; have hcz11_9 : w10.cell? ⟨gb117, 9, none⟩ = some (.slice A0_9 l0_9.length c0_9) := (blk_cell BK117.out 9).trans rfl; have hcz11_10 : w10.cell? ⟨gb117, 10, none⟩ = some (.string a0_10) := (blk_cell BK117.out 10).trans rfl; have hfz11_0 := blk_frozen BK117.out 0; have hfz11_1 := blk_frozen BK117.out 1; have hfz11_2 := blk_frozen BK117.out 2; have hfz11_3 := blk_frozen BK117.out 3; have hfz11_4 := blk_frozen BK117.out 4; have hfz11_5 := blk_frozen BK117.out 5; have hfz11_6 := blk_frozen BK117.out 6; have hfz11_7 := blk_frozen BK117.out 7; have hfz11_8 := blk_frozen BK117.out 8; have hfz11_9 := blk_frozen BK117.out 9; have hfz11_10 := blk_frozen BK117.out 10))
  repeat (go_step3; try (go_wp2_with (first | (go_at_call 35; (with_reducible refine (msg_whole.calls a0_0 a0_1 a0_2 a0_3 a0_4 a0_5 _ _ l0_6 a0_7 a0_8 _ _ l0_9 a0_10 true _ ?side1 ?side2 ?side3 ?side4 A7.out).mono ?_); (case side1 => exact cl_ (Kd.C_below HR0_6.out HB.out)); (case side2 => exact HC0_6.out); (case side3 => exact cl_ (Kd.C_below HR0_9.out HB.out)); (case side4 => exact HC0_9.out); rintro e w10 ⟨rfl, hb⟩; replace BK117 := bB_ BK117 hb; replace HB := hB_ (bl_1 HB GE117) hb; (try clear hb); have hcz11_0 : w10.cell? ⟨gb117, 0, none⟩ = some (.int .u8 a0_0) := (blk_cell BK117.out 0).trans rfl; have hcz11_1 : w10.cell? ⟨gb117, 1, none⟩ = some (.int .u64 a0_1) := (blk_cell BK117.out 1).trans rfl; have hcz11_2 : w10.cell? ⟨gb117, 2, none⟩ = some (.int .u64 a0_2) := (blk_cell BK117.out 2).trans rfl; have hcz11_3 : w10.cell? ⟨gb117, 3, none⟩ = some (.int .u64 a0_3) := (blk_cell BK117.out 3).trans rfl; have hcz11_4 : w10.cell? ⟨gb117, 4, none⟩ = some (.int .u64 a0_4) := (blk_cell BK117.out 4).trans rfl; have hcz11_5 : w10.cell? ⟨gb117, 5, none⟩ = some (.bool a0_5) := (blk_cell BK117.out 5).trans rfl; have hcz11_6 : w10.cell? ⟨gb117, 6, none⟩ = some (.slice A0_6 l0_6.length c0_6) := (blk_cell BK117.out 6).trans rfl; have hcz11_7 : w10.cell? ⟨gb117, 7, none⟩ = some (.int .u64 a0_7) := (blk_cell BK117.out 7).trans rfl; have hcz11_8 : w10.cell? ⟨gb117, 8, none⟩ = some (.int .u64 a0_8) := (blk_cell BK117.out 8).trans rfl; have hcz11_9 : w10.cell? ⟨gb117, 9, none⟩ = some (.slice A0_9 l0_9.length c0_9) := (blk_cell BK117.out 9).trans rfl; have hcz11_10 : w10.cell? ⟨gb117, 10, none⟩ = some (.string a0_10) := (blk_cell BK117.out 10).trans rfl; have hfz11_0 := blk_frozen BK117.out 0; have hfz11_1 := blk_frozen BK117.out 1; have hfz11_2 := blk_frozen BK117.out 2; have hfz11_3 := blk_frozen BK117.out 3; have hfz11_4 := blk_frozen BK117.out 4; have hfz11_5 := blk_frozen BK117.out 5; have hfz11_6 := blk_frozen BK117.out 6; have hfz11_7 := blk_frozen BK117.out 7; have hfz11_8 := blk_frozen BK117.out 8; have hfz11_9 := blk_frozen BK117.out 9; have hfz11_10 := blk_frozen BK117.out 10))))
  go_meet
  case rel => exact ⟨_, (decide ((l0_6.length : Int) ≤ 8)), fz_, H', ⟨by first | omega | exact Nat.le_refl _⟩, ⟨bk_ BK117⟩, ⟨bl_1 HB GE117⟩⟩
 case rest =>
  clear HC2
  try clear c1
  try clear p2
  try clear c4
  try clear c4b0
  try clear c5
  try clear c5b0
  try clear c6
  try clear c6b0
  try clear c8
  obtain ⟨kq, x3_1, rfl, HA, HJ1, BK117, HB⟩ := hcut
  cases kq with
  | zero => exact absurd HA.out (by simp [msg_Check.j0])
  | succ kj1 =>
   have H := HA.out
   clear HA
   simp only [msg_Check.j0] at H
   have HC17 := a_ H
   clear H
   have hcz18_0 : wc.cell? ⟨gb117, 0, none⟩ = some (.int .u8 a0_0) := (blk_cell BK117.out 0).trans rfl
   have hcz18_1 : wc.cell? ⟨gb117, 1, none⟩ = some (.int .u64 a0_1) := (blk_cell BK117.out 1).trans rfl
   have hcz18_2 : wc.cell? ⟨gb117, 2, none⟩ = some (.int .u64 a0_2) := (blk_cell BK117.out 2).trans rfl
   have hcz18_3 : wc.cell? ⟨gb117, 3, none⟩ = some (.int .u64 a0_3) := (blk_cell BK117.out 3).trans rfl
   have hcz18_4 : wc.cell? ⟨gb117, 4, none⟩ = some (.int .u64 a0_4) := (blk_cell BK117.out 4).trans rfl
   have hcz18_5 : wc.cell? ⟨gb117, 5, none⟩ = some (.bool a0_5) := (blk_cell BK117.out 5).trans rfl
   have hcz18_6 : wc.cell? ⟨gb117, 6, none⟩ = some (.slice A0_6 l0_6.length c0_6) := (blk_cell BK117.out 6).trans rfl
   have hcz18_7 : wc.cell? ⟨gb117, 7, none⟩ = some (.int .u64 a0_7) := (blk_cell BK117.out 7).trans rfl
   have hcz18_8 : wc.cell? ⟨gb117, 8, none⟩ = some (.int .u64 a0_8) := (blk_cell BK117.out 8).trans rfl
   have hcz18_9 : wc.cell? ⟨gb117, 9, none⟩ = some (.slice A0_9 l0_9.length c0_9) := (blk_cell BK117.out 9).trans rfl
   have hcz18_10 : wc.cell? ⟨gb117, 10, none⟩ = some (.string a0_10) := (blk_cell BK117.out 10).trans rfl
   have hfz18_0 := blk_frozen BK117.out 0
   have hfz18_1 := blk_frozen BK117.out 1
   have hfz18_2 := blk_frozen BK117.out 2
   have hfz18_3 := blk_frozen BK117.out 3
   have hfz18_4 := blk_frozen BK117.out 4
   have hfz18_5 := blk_frozen BK117.out 5
   have hfz18_6 := blk_frozen BK117.out 6
   have hfz18_7 := blk_frozen BK117.out 7
   have hfz18_8 := blk_frozen BK117.out 8
   have hfz18_9 := blk_frozen BK117.out 9
   have hfz18_10 := blk_frozen BK117.out 10
   go_upto_if 32 with (fail)
   (try (go_step3; go_step))
   go_cut [3] (fun v3 wc => ∃ (kq : Nat) (x3_16 : Bool), v3 = .bool x3_16 ∧ Aside0 (msg_Check.j1 kq x3_16 a0_0 a0_1 a0_2 a0_3 a0_4 a0_5 l0_6 a0_7 a0_8 l0_9 a0_10 = some r) ∧ Aside0 (kq ≤ kj1) ∧ Aside0 (wc.heap[gb117]? = some (.cells #[.int .u8 a0_0, .int .u64 a0_1, .int .u64 a0_2, .int .u64 a0_3, .int .u64 a0_4, .bool a0_5, (.slice A0_6 l0_6.length c0_6), .int .u64 a0_7, .int .u64 a0_8, (.slice A0_9 l0_9.length c0_9), .string a0_10] 37 (0, 0))) ∧ Aside0 (Below w.heap.size w wc))
   case first =>
    have H := HC17.out
    clear HC17
    by_cases c19 : a0_0 = 5
    rotate_left
    ·rw [if_neg c19] at H
     have c19b0 : (a0_0 == 5) = false := beq_eq_false_iff_ne.mpr c19
     have c19b1 : (a0_0 != 5) = true := bne_iff_ne.mpr c19
     (first | rw [c19b0] | (simp only [i64_w, i32_w]; rw [c19b0]) | skip)
     have H' := a_ H
     clear H
     go_wp2
     repeat (go_step3; try (go_wp2))
     go_meet
     case rel => exact ⟨_, (x3_1), fz_, H', ⟨by have := HJ1.out; first | omega | exact Nat.le_refl _⟩, ⟨bk_ BK117⟩, ⟨bl_1 HB GE117⟩⟩
    rw [if_pos c19] at H
    have c19b0 : (a0_0 == 5) = true := beq_iff_eq.mpr c19
    have c19b1 : (a0_0 != 5) = false := bne_eq_false_iff_eq.mpr c19
    clear c19
    (first | rw [c19b0] | (simp only [i64_w, i32_w]; rw [c19b0]) | skip)
    by_cases c20 : x3_1 = true
    rotate_left
    ·replace c20 := Bool.eq_false_iff.mpr c20
     subst c20
     have H1 : (msg_Check.j1 kj1 false a0_0 a0_1 a0_2 a0_3 a0_4 a0_5 l0_6 a0_7 a0_8 l0_9 a0_10) = some r := by rw [if_neg (show ¬ (false = true) by decide)] at H; exact H
     clear H
     have H := H1
     clear H1
     have H' := a_ H
     clear H
     go_wp2
     repeat (go_step3; try (go_wp2))
     go_meet
     case rel => exact ⟨_, (false), fz_, H', ⟨by have := HJ1.out; first | omega | exact Nat.le_refl _⟩, ⟨bk_ BK117⟩, ⟨bl_1 HB GE117⟩⟩
    subst c20
    have H1 : ((snap_Check.f kj1 a0_7 a0_8 l0_9 a0_10).bind fun t119 => (if t119 = 0 then (msg_Check.j1 kj1 (decide (a0_7 > 0)) a0_0 a0_1 a0_2 a0_3 a0_4 a0_5 l0_6 a0_7 a0_8 l0_9 a0_10) else (msg_Check.j1 kj1 false a0_0 a0_1 a0_2 a0_3 a0_4 a0_5 l0_6 a0_7 a0_8 l0_9 a0_10))) = some r := by rw [if_pos rfl] at H; exact H
    clear H
    have H := H1
    clear H1
    obtain ⟨t119, A210, H⟩ := Option.bind_eq_some_iff.mp H
    try dsimp only at H
    have A21 := a_ A210
    clear A210
    by_cases c22 : t119 = 0
    rotate_left
    ·rw [if_neg c22] at H
     have c22b0 : (t119 == 0) = false := beq_eq_false_iff_ne.mpr c22
     have c22b1 : (t119 != 0) = true := bne_iff_ne.mpr c22
     have H' := a_ H
     clear H
     have hcz26_0 : wc.cell? ⟨gb117, 0, none⟩ = some (.int .u8 a0_0) := (blk_cell BK117.out 0).trans rfl
     have hcz26_1 : wc.cell? ⟨gb117, 1, none⟩ = some (.int .u64 a0_1) := (blk_cell BK117.out 1).trans rfl
     have hcz26_2 : wc.cell? ⟨gb117, 2, none⟩ = some (.int .u64 a0_2) := (blk_cell BK117.out 2).trans rfl
     have hcz26_3 : wc.cell? ⟨gb117, 3, none⟩ = some (.int .u64 a0_3) := (blk_cell BK117.out 3).trans rfl
     have hcz26_4 : wc.cell? ⟨gb117, 4, none⟩ = some (.int .u64 a0_4) := (blk_cell BK117.out 4).trans rfl
     have hcz26_5 : wc.cell? ⟨gb117, 5, none⟩ = some (.bool a0_5) := (blk_cell BK117.out 5).trans rfl
     have hcz26_6 : wc.cell? ⟨gb117, 6, none⟩ = some (.slice A0_6 l0_6.length c0_6) := (blk_cell BK117.out 6).trans rfl
     have hcz26_7 : wc.cell? ⟨gb117, 7, none⟩ = some (.int .u64 a0_7) := (blk_cell BK117.out 7).trans rfl
     have hcz26_8 : wc.cell? ⟨gb117, 8, none⟩ = some (.int .u64 a0_8) := (blk_cell BK117.out 8).trans rfl
     have hcz26_9 : wc.cell? ⟨gb117, 9, none⟩ = some (.slice A0_9 l0_9.length c0_9) := (blk_cell BK117.out 9).trans rfl
     have hcz26_10 : wc.cell? ⟨gb117, 10, none⟩ = some (.string a0_10) := (blk_cell BK117.out 10).trans rfl
     have hfz26_0 := blk_frozen BK117.out 0
     have hfz26_1 := blk_frozen BK117.out 1
     have hfz26_2 := blk_frozen BK117.out 2
     have hfz26_3 := blk_frozen BK117.out 3
     have hfz26_4 := blk_frozen BK117.out 4
     have hfz26_5 := blk_frozen BK117.out 5
     have hfz26_6 := blk_frozen BK117.out 6
     have hfz26_7 := blk_frozen BK117.out 7
     have hfz26_8 := blk_frozen BK117.out 8
     have hfz26_9 := blk_frozen BK117.out 9
     have hfz26_10 := blk_frozen BK117.out 10
     go_wp2_with (first | (go_at_call 36; (with_reducible refine (snap_Check.calls kj1 a0_7 a0_8 _ _ l0_9 a0_10 t119 _ ?side1 ?side2 A21.out).mono ?_); (case side1 => exact cl_ (Kd.C_below HR0_9.out HB.out)); (case side2 => exact HC0_9.out); rintro e w27 ⟨rfl, hb⟩; replace BK117 := bB_ BK117 hb; replace HB := hB_ (bl_1 HB GE117) hb; (try clear hb)))
     repeat (go_step3; try (go_wp2_with (first | (go_at_call 36; (with_reducible refine (snap_Check.calls kj1 a0_7 a0_8 _ _ l0_9 a0_10 t119 _ ?side1 ?side2 A21.out).mono ?_); (case side1 => exact cl_ (Kd.C_below HR0_9.out HB.out)); (case side2 => exact HC0_9.out); rintro e w27 ⟨rfl, hb⟩; replace BK117 := bB_ BK117 hb; replace HB := hB_ (bl_1 HB GE117) hb; (try clear hb)))))
     go_meet
     case rel => exact ⟨_, (false), fz_, H', ⟨by have := HJ1.out; first | omega | exact Nat.le_refl _⟩, ⟨bk_ BK117⟩, ⟨bl_1 HB GE117⟩⟩
    rw [if_pos c22] at H
    have c22b0 : (t119 == 0) = true := beq_iff_eq.mpr c22
    have c22b1 : (t119 != 0) = false := bne_eq_false_iff_eq.mpr c22
    clear c22
    have H' := a_ H
    clear H
    have hcz23_0 : wc.cell? ⟨gb117, 0, none⟩ = some (.int .u8 a0_0) := (blk_cell BK117.out 0).trans rfl
    have hcz23_1 : wc.cell? ⟨gb117, 1, none⟩ = some (.int .u64 a0_1) := (blk_cell BK117.out 1).trans rfl
    have hcz23_2 : wc.cell? ⟨gb117, 2, none⟩ = some (.int .u64 a0_2) := (blk_cell BK117.out 2).trans rfl
    have hcz23_3 : wc.cell? ⟨gb117, 3, none⟩ = some (.int .u64 a0_3) := (blk_cell BK117.out 3).trans rfl
    have hcz23_4 : wc.cell? ⟨gb117, 4, none⟩ = some (.int .u64 a0_4) := (blk_cell BK117.out 4).trans rfl
    have hcz23_5 : wc.cell? ⟨gb117, 5, none⟩ = some (.bool a0_5) := (blk_cell BK117.out 5).trans rfl
    have hcz23_6 : wc.cell? ⟨gb117, 6, none⟩ = some (.slice A0_6 l0_6.length c0_6) := (blk_cell BK117.out 6).trans rfl
    have hcz23_7 : wc.cell? ⟨gb117, 7, none⟩ = some (.int .u64 a0_7) := (blk_cell BK117.out 7).trans rfl
    have hcz23_8 : wc.cell? ⟨gb117, 8, none⟩ = some (.int .u64 a0_8) := (blk_cell BK117.out 8).trans rfl
    have hcz23_9 : wc.cell? ⟨gb117, 9, none⟩ = some (.slice A0_9 l0_9.length c0_9) := (blk_cell BK117.out 9).trans rfl
    have hcz23_10 : wc.cell? ⟨gb117, 10, none⟩ = some (.string a0_10) := (blk_cell BK117.out 10).trans rfl
    have hfz23_0 := blk_frozen BK117.out 0
    have hfz23_1 := blk_frozen BK117.out 1
    have hfz23_2 := blk_frozen BK117.out 2
    have hfz23_3 := blk_frozen BK117.out 3
    have hfz23_4 := blk_frozen BK117.out 4
    have hfz23_5 := blk_frozen BK117.out 5
    have hfz23_6 := blk_frozen BK117.out 6
    have hfz23_7 := blk_frozen BK117.out 7
    have hfz23_8 := blk_frozen BK117.out 8
    have hfz23_9 := blk_frozen BK117.out 9
    have hfz23_10 := blk_frozen BK117.out 10
    go_wp2_with (first | (go_at_call 36; (with_reducible refine (snap_Check.calls kj1 a0_7 a0_8 _ _ l0_9 a0_10 t119 _ ?side1 ?side2 A21.out).mono ?_); (case side1 => exact cl_ (Kd.C_below HR0_9.out HB.out)); (case side2 => exact HC0_9.out); rintro e w24 ⟨rfl, hb⟩; replace BK117 := bB_ BK117 hb; replace HB := hB_ (bl_1 HB GE117) hb; (try clear hb); have hcz25_0 : w24.cell? ⟨gb117, 0, none⟩ = some (.int .u8 a0_0) := (blk_cell BK117.out 0).trans rfl; have hcz25_1 : w24.cell? ⟨gb117, 1, none⟩ = some (.int .u64 a0_1) := (blk_cell BK117.out 1).trans rfl; have hcz25_2 : w24.cell? ⟨gb117, 2, none⟩ = some (.int .u64 a0_2) := (blk_cell BK117.out 2).trans rfl; have hcz25_3 : w24.cell? ⟨gb117, 3, none⟩ = some (.int .u64 a0_3) := (blk_cell BK117.out 3).trans rfl; have hcz25_4 : w24.cell? ⟨gb117, 4, none⟩ = some (.int .u64 a0_4) := (blk_cell BK117.out 4).trans rfl; have hcz25_5 : w24.cell? ⟨gb117, 5, none⟩ = some (.bool a0_5) := (blk_cell BK117.out 5).trans rfl; have hcz25_6 : w24.cell? ⟨gb117, 6, none⟩ = some (.slice A0_6 l0_6.length c0_6) := (blk_cell BK117.out 6).trans rfl; have hcz25_7 : w24.cell? ⟨gb117, 7, none⟩ = some (.int .u64 a0_7) := (blk_cell BK117.out 7).trans rfl; have hcz25_8 : w24.cell? ⟨gb117, 8, none⟩ = some (.int .u64 a0_8) := (blk_cell BK117.out 8).trans rfl; have hcz25_9 : w24.cell? ⟨gb117, 9, none⟩ = some (.slice A0_9 l0_9.length c0_9) := (blk_cell BK117.out 9).trans rfl; have hcz25_10 : w24.cell? ⟨gb117, 10, none⟩ = some (.string a0_10) := (blk_cell BK117.out 10).trans rfl; have hfz25_0 := blk_frozen BK117.out 0; have hfz25_1 := blk_frozen BK117.out 1; have hfz25_2 := blk_frozen BK117.out 2; have hfz25_3 := blk_frozen BK117.out 3; have hfz25_4 := blk_frozen BK117.out 4; have hfz25_5 := blk_frozen BK117.out 5; have hfz25_6 := blk_frozen BK117.out 6; have hfz25_7 := blk_frozen BK117.out 7; have hfz25_8 := blk_frozen BK117.out 8; have hfz25_9 := blk_frozen BK117.out 9; have hfz25_10 := blk_frozen BK117.out 10))
    repeat (go_step3; try (go_wp2_with (first | (go_at_call 36; (with_reducible refine (snap_Check.calls kj1 a0_7 a0_8 _ _ l0_9 a0_10 t119 _ ?side1 ?side2 A21.out).mono ?_); (case side1 => exact cl_ (Kd.C_below HR0_9.out HB.out)); (case side2 => exact HC0_9.out); rintro e w24 ⟨rfl, hb⟩; replace BK117 := bB_ BK117 hb; replace HB := hB_ (bl_1 HB GE117) hb; (try clear hb); have hcz25_0 : w24.cell? ⟨gb117, 0, none⟩ = some (.int .u8 a0_0) := (blk_cell BK117.out 0).trans rfl; have hcz25_1 : w24.cell? ⟨gb117, 1, none⟩ = some (.int .u64 a0_1) := (blk_cell BK117.out 1).trans rfl; have hcz25_2 : w24.cell? ⟨gb117, 2, none⟩ = some (.int .u64 a0_2) := (blk_cell BK117.out 2).trans rfl; have hcz25_3 : w24.cell? ⟨gb117, 3, none⟩ = some (.int .u64 a0_3) := (blk_cell BK117.out 3).trans rfl; have hcz25_4 : w24.cell? ⟨gb117, 4, none⟩ = some (.int .u64 a0_4) := (blk_cell BK117.out 4).trans rfl; have hcz25_5 : w24.cell? ⟨gb117, 5, none⟩ = some (.bool a0_5) := (blk_cell BK117.out 5).trans rfl; have hcz25_6 : w24.cell? ⟨gb117, 6, none⟩ = some (.slice A0_6 l0_6.length c0_6) := (blk_cell BK117.out 6).trans rfl; have hcz25_7 : w24.cell? ⟨gb117, 7, none⟩ = some (.int .u64 a0_7) := (blk_cell BK117.out 7).trans rfl; have hcz25_8 : w24.cell? ⟨gb117, 8, none⟩ = some (.int .u64 a0_8) := (blk_cell BK117.out 8).trans rfl; have hcz25_9 : w24.cell? ⟨gb117, 9, none⟩ = some (.slice A0_9 l0_9.length c0_9) := (blk_cell BK117.out 9).trans rfl; have hcz25_10 : w24.cell? ⟨gb117, 10, none⟩ = some (.string a0_10) := (blk_cell BK117.out 10).trans rfl; have hfz25_0 := blk_frozen BK117.out 0; have hfz25_1 := blk_frozen BK117.out 1; have hfz25_2 := blk_frozen BK117.out 2; have hfz25_3 := blk_frozen BK117.out 3; have hfz25_4 := blk_frozen BK117.out 4; have hfz25_5 := blk_frozen BK117.out 5; have hfz25_6 := blk_frozen BK117.out 6; have hfz25_7 := blk_frozen BK117.out 7; have hfz25_8 := blk_frozen BK117.out 8; have hfz25_9 := blk_frozen BK117.out 9; have hfz25_10 := blk_frozen BK117.out 10))))
    go_meet
    case rel => exact ⟨_, (decide (a0_7 > 0)), fz_, H', ⟨by have := HJ1.out; first | omega | exact Nat.le_refl _⟩, ⟨bk_ BK117⟩, ⟨bl_1 HB GE117⟩⟩
   case rest =>
    clear HC17
    try clear c1
    try clear c2
    try clear p2
    try clear c4
    try clear c4b0
    try clear c5
    try clear c5b0
    try clear c6
    try clear c6b0
    try clear c8
    try clear c19
    try clear c19b0
    try clear c19b1
    try clear c20
    try clear c22
    try clear c22b0
    try clear c22b1
    try clear p2
    obtain ⟨kq, x3_16, rfl, HA, HJ16, BK117, HB⟩ := hcut
    cases kq with
    | zero => exact absurd HA.out (by simp [msg_Check.j1])
    | succ kj16 =>
     have H := HA.out
     clear HA
     simp only [msg_Check.j1] at H
     have H' := a_ H
     clear H
     have hcz28_0 : wc.cell? ⟨gb117, 0, none⟩ = some (.int .u8 a0_0) := (blk_cell BK117.out 0).trans rfl
     have hcz28_1 : wc.cell? ⟨gb117, 1, none⟩ = some (.int .u64 a0_1) := (blk_cell BK117.out 1).trans rfl
     have hcz28_2 : wc.cell? ⟨gb117, 2, none⟩ = some (.int .u64 a0_2) := (blk_cell BK117.out 2).trans rfl
     have hcz28_3 : wc.cell? ⟨gb117, 3, none⟩ = some (.int .u64 a0_3) := (blk_cell BK117.out 3).trans rfl
     have hcz28_4 : wc.cell? ⟨gb117, 4, none⟩ = some (.int .u64 a0_4) := (blk_cell BK117.out 4).trans rfl
     have hcz28_5 : wc.cell? ⟨gb117, 5, none⟩ = some (.bool a0_5) := (blk_cell BK117.out 5).trans rfl
     have hcz28_6 : wc.cell? ⟨gb117, 6, none⟩ = some (.slice A0_6 l0_6.length c0_6) := (blk_cell BK117.out 6).trans rfl
     have hcz28_7 : wc.cell? ⟨gb117, 7, none⟩ = some (.int .u64 a0_7) := (blk_cell BK117.out 7).trans rfl
     have hcz28_8 : wc.cell? ⟨gb117, 8, none⟩ = some (.int .u64 a0_8) := (blk_cell BK117.out 8).trans rfl
     have hcz28_9 : wc.cell? ⟨gb117, 9, none⟩ = some (.slice A0_9 l0_9.length c0_9) := (blk_cell BK117.out 9).trans rfl
     have hcz28_10 : wc.cell? ⟨gb117, 10, none⟩ = some (.string a0_10) := (blk_cell BK117.out 10).trans rfl
     have hfz28_0 := blk_frozen BK117.out 0
     have hfz28_1 := blk_frozen BK117.out 1
     have hfz28_2 := blk_frozen BK117.out 2
     have hfz28_3 := blk_frozen BK117.out 3
     have hfz28_4 := blk_frozen BK117.out 4
     have hfz28_5 := blk_frozen BK117.out 5
     have hfz28_6 := blk_frozen BK117.out 6
     have hfz28_7 := blk_frozen BK117.out 7
     have hfz28_8 := blk_frozen BK117.out 8
     have hfz28_9 := blk_frozen BK117.out 9
     have hfz28_10 := blk_frozen BK117.out 10
     go_wp2
     repeat (go_step3; try (go_wp2))
     go_loopg [3, 4, 51] kj16 (fun kq v3 v4 v51 w' => ∃ (x3_3 : Bool) (x4_3 : Int) (x51_3 : Int), v3 = .bool x3_3 ∧ v4 = .int .u64 x4_3 ∧ v51 = .int .i64 x51_3 ∧ Aside0 (msg_Check.l0 kq x3_3 x4_3 l0_6 (l0_6.length : Int) x51_3 = some r) ∧ Aside0 (kq ≤ kj16) ∧ Aside0 (w'.heap[gb117]? = some (.cells #[.int .u8 a0_0, .int .u64 a0_1, .int .u64 a0_2, .int .u64 a0_3, .int .u64 a0_4, .bool a0_5, (.slice A0_6 l0_6.length c0_6), .int .u64 a0_7, .int .u64 a0_8, (.slice A0_9 l0_9.length c0_9), .string a0_10] 37 (0, 0))) ∧ Aside0 (Below w.heap.size w w'))
     case atStart => exact ⟨(x3_16), (a0_2), (0), fz_, fz_, fz_, H', ⟨Nat.le_refl _⟩, ⟨bk_ BK117⟩, ⟨bl_1 HB GE117⟩⟩
     case round =>
      clear H'
      try clear c1
      try clear c2
      try clear p2
      try clear c4
      try clear c4b0
      try clear c5
      try clear c5b0
      try clear c6
      try clear c6b0
      try clear c8
      try clear c19
      try clear c19b0
      try clear c19b1
      try clear c20
      try clear c22
      try clear c22b0
      try clear c22b1
      try clear p2
      obtain ⟨x3_3, x4_3, x51_3, rfl, rfl, rfl, HA, HK3, BK117, HB⟩ := hrel
      cases gk with
      | zero => exact absurd HA.out (by simp [msg_Check.l0])
      | succ k3 =>
       have H := HA.out
       clear HA
       simp only [msg_Check.l0] at H
       by_cases c29 : x51_3 < (l0_6.length : Int)
       rotate_left
       ·rw [if_neg c29] at H
        have c29b0 : decide (x51_3 < (l0_6.length : Int)) = false := decide_eq_false c29
        clear c29
        by_cases c49 : x3_3 = true
        ·subst c49
         have H1 : (some 0) = some r := by rw [if_pos rfl] at H; exact H
         clear H
         have H := H1
         clear H1
         obtain rfl := Option.some.inj H
         go_wp2
         repeat (go_step3; try (go_wp2))
         try dsimp only [Exit.noGoto]
         go_ret
         exact ⟨fz_, bl_1 HB GE117⟩
        replace c49 := Bool.eq_false_iff.mpr c49
        subst c49
        have H1 : (some 4) = some r := by rw [if_neg (show ¬ (false = true) by decide)] at H; exact H
        clear H
        have H := H1
        clear H1
        obtain rfl := Option.some.inj H
        go_wp2
        repeat (go_step3; try (go_wp2))
        try dsimp only [Exit.noGoto]
        go_ret
        exact ⟨fz_, bl_1 HB GE117⟩


       rw [if_pos c29] at H
       have c29b0 : decide (x51_3 < (l0_6.length : Int)) = true := decide_eq_true c29
       clear c29
       by_cases c30 : 0 ≤ x51_3
       rotate_left
       ·rw [if_neg c30] at H
        exact absurd H (by simp)
       rw [if_pos c30] at H
       have c30b0 : decide (0 ≤ x51_3) = true := decide_eq_true c30
       clear c30
       by_cases c31 : x51_3 < (l0_6.length : Int)
       rotate_left
       ·rw [if_neg c31] at H
        exact absurd H (by simp)
       rw [if_pos c31] at H
       have c31b0 : decide (x51_3 < (l0_6.length : Int)) = true := decide_eq_true c31
       clear c31
       obtain ⟨t122, A320, H⟩ := Option.bind_eq_some_iff.mp H
       try dsimp only at H
       have A32 := a_ A320
       clear A320
       by_cases c33 : t122 = 0
       rotate_left
       ·rw [if_neg c33] at H
        have c33b0 : (t122 == 0) = false := beq_eq_false_iff_ne.mpr c33
        have c33b1 : (t122 != 0) = true := bne_iff_ne.mpr c33
        obtain rfl := Option.some.inj H
        have p120 : 0 ≤ (x51_3 : Int) := od_
        have q120 : x51_3 < (l0_6.length : Int) := od_
        obtain ⟨ad120, A120_4, c120_4, e120, hx120_0, hx120_1, hx120_2, hx120_3, hx120_4, hl120_4, hi120_4⟩ := at_T67 HR0_6.out x51_3 p120 q120
        cases e120
        replace hx120_0 := hc_ HB hx120_0
        replace hx120_1 := hc_ HB hx120_1
        replace hx120_2 := hc_ HB hx120_2
        replace hx120_3 := hc_ HB hx120_3
        replace hx120_4 := hc_ HB hx120_4
        have HR120_4 := a_ hi120_4
        have HC120_4 := a_ hl120_4
        clear hi120_4 hl120_4
        replace p120 := eq_true p120
        replace q120 := eq_true q120
        go_wp2_with (first | ((with_reducible refine gd_ 6 ?_); (try (refine gate_guard (by rfl) ?_; dsimp only)); refine bx_ 6 #[.int .u64 0, .int .u64 0, .int .u8 0, .string (⟨#[]⟩ : ByteArray), .slice none 0 0] 67 ?_; intro gb121 hg w45 hbox hb; have BK121 := a_ (hbox); have GE121 := a_ (bs_1 hg HB GE117); replace HB := hB_ (bl_1 HB GE117) hb; have NB117_121 := nB_ hg BK117; have NB121_117 := nC_ hg BK117; replace BK117 := bB_ BK117 hb; clear hb hbox hg; have hnb46 := NB121_117.out; have hnc46 := NB117_121.out; obtain ⟨hcz47_0, hcz47_1, hcz47_2, hcz47_3, hcz47_4, hfz47_0, hfz47_1, hfz47_2, hfz47_3, hfz47_4⟩ := c5_ BK121) | ((with_reducible refine gk_ 37 ?_); refine gl_ (some 59) Try.func37 #[.agg #[.int .u64 ((rd_T67 l0_6 x51_3).f0), .int .u64 ((rd_T67 l0_6 x51_3).f1), .int .u8 ((rd_T67 l0_6 x51_3).f2), .string ((rd_T67 l0_6 x51_3).f3), .slice A120_4 ((rd_T67 l0_6 x51_3).f4).length c120_4]] ?_; (with_reducible refine (wal_Check.calls k3 ((rd_T67 l0_6 x51_3).f0) ((rd_T67 l0_6 x51_3).f1) ((rd_T67 l0_6 x51_3).f2) ((rd_T67 l0_6 x51_3).f3) _ _ ((rd_T67 l0_6 x51_3).f4) t122 _ ?side1 ?side2 A32.out).mono ?_); (case side1 => exact Kd.C_below HR120_4.out (bl_2 HB GE117 GE121)); (case side2 => exact HC120_4.out); rintro e w48 ⟨rfl, hb⟩; refine ⟨_, rfl, ?_⟩; replace BK117 := a_ (blk_below (g := gb117) (o := .cells #[.int .u8 a0_0, .int .u64 a0_1, .int .u64 a0_2, .int .u64 a0_3, .int .u64 a0_4, .bool a0_5, .slice (some ad120) l0_6.length c0_6, .int .u64 a0_7, .int .u64 a0_8, .slice A0_9 l0_9.length c0_9, .string a0_10] 37 (0, 0)) (bp_1 BK117 NB117_121) hb); replace BK121 := a_ (blk_below (g := gb121) (o := .cells #[.int .u64 ((rd_T67 l0_6 x51_3).f0), .int .u64 ((rd_T67 l0_6 x51_3).f1), .int .u8 ((rd_T67 l0_6 x51_3).f2), .string ((rd_T67 l0_6 x51_3).f3), .slice A120_4 ((rd_T67 l0_6 x51_3).f4).length c120_4] 67 (0, 0)) (bp_0 BK121) hb); replace HB := hB_ (bl_2 HB GE117 GE121) hb; (try clear hb)))
        repeat (go_step3; try (go_wp2_with (first | ((with_reducible refine gd_ 6 ?_); (try (refine gate_guard (by rfl) ?_; dsimp only)); refine bx_ 6 #[.int .u64 0, .int .u64 0, .int .u8 0, .string (⟨#[]⟩ : ByteArray), .slice none 0 0] 67 ?_; intro gb121 hg w45 hbox hb; have BK121 := a_ (hbox); have GE121 := a_ (bs_1 hg HB GE117); replace HB := hB_ (bl_1 HB GE117) hb; have NB117_121 := nB_ hg BK117; have NB121_117 := nC_ hg BK117; replace BK117 := bB_ BK117 hb; clear hb hbox hg; have hnb46 := NB121_117.out; have hnc46 := NB117_121.out; obtain ⟨hcz47_0, hcz47_1, hcz47_2, hcz47_3, hcz47_4, hfz47_0, hfz47_1, hfz47_2, hfz47_3, hfz47_4⟩ := c5_ BK121) | ((with_reducible refine gk_ 37 ?_); refine gl_ (some 59) Try.func37 #[.agg #[.int .u64 ((rd_T67 l0_6 x51_3).f0), .int .u64 ((rd_T67 l0_6 x51_3).f1), .int .u8 ((rd_T67 l0_6 x51_3).f2), .string ((rd_T67 l0_6 x51_3).f3), .slice A120_4 ((rd_T67 l0_6 x51_3).f4).length c120_4]] ?_; (with_reducible refine (wal_Check.calls k3 ((rd_T67 l0_6 x51_3).f0) ((rd_T67 l0_6 x51_3).f1) ((rd_T67 l0_6 x51_3).f2) ((rd_T67 l0_6 x51_3).f3) _ _ ((rd_T67 l0_6 x51_3).f4) t122 _ ?side1 ?side2 A32.out).mono ?_); (case side1 => exact Kd.C_below HR120_4.out (bl_2 HB GE117 GE121)); (case side2 => exact HC120_4.out); rintro e w48 ⟨rfl, hb⟩; refine ⟨_, rfl, ?_⟩; replace BK117 := a_ (blk_below (g := gb117) (o := .cells #[.int .u8 a0_0, .int .u64 a0_1, .int .u64 a0_2, .int .u64 a0_3, .int .u64 a0_4, .bool a0_5, .slice (some ad120) l0_6.length c0_6, .int .u64 a0_7, .int .u64 a0_8, .slice A0_9 l0_9.length c0_9, .string a0_10] 37 (0, 0)) (bp_1 BK117 NB117_121) hb); replace BK121 := a_ (blk_below (g := gb121) (o := .cells #[.int .u64 ((rd_T67 l0_6 x51_3).f0), .int .u64 ((rd_T67 l0_6 x51_3).f1), .int .u8 ((rd_T67 l0_6 x51_3).f2), .string ((rd_T67 l0_6 x51_3).f3), .slice A120_4 ((rd_T67 l0_6 x51_3).f4).length c120_4] 67 (0, 0)) (bp_0 BK121) hb); replace HB := hB_ (bl_2 HB GE117 GE121) hb; (try clear hb)))))
        try dsimp only [Exit.noGoto]
        go_ret
        exact ⟨fz_, bl_2 HB GE117 GE121⟩
       rw [if_pos c33] at H
       have c33b0 : (t122 == 0) = true := beq_iff_eq.mpr c33
       have c33b1 : (t122 != 0) = false := bne_eq_false_iff_eq.mpr c33
       clear c33
       by_cases c34 : ((rd_T67 l0_6 x51_3).f0) = (IntKind.u64.wrap (x4_3 + 1))
       rotate_left
       ·rw [if_neg c34] at H
        have c34b0 : (((rd_T67 l0_6 x51_3).f0) == (IntKind.u64.wrap (x4_3 + 1))) = false := beq_eq_false_iff_ne.mpr c34
        have c34b1 : (((rd_T67 l0_6 x51_3).f0) != (IntKind.u64.wrap (x4_3 + 1))) = true := bne_iff_ne.mpr c34
        obtain rfl := Option.some.inj H
        have p120 : 0 ≤ (x51_3 : Int) := od_
        have q120 : x51_3 < (l0_6.length : Int) := od_
        obtain ⟨ad120, A120_4, c120_4, e120, hx120_0, hx120_1, hx120_2, hx120_3, hx120_4, hl120_4, hi120_4⟩ := at_T67 HR0_6.out x51_3 p120 q120
        cases e120
        replace hx120_0 := hc_ HB hx120_0
        replace hx120_1 := hc_ HB hx120_1
        replace hx120_2 := hc_ HB hx120_2
        replace hx120_3 := hc_ HB hx120_3
        replace hx120_4 := hc_ HB hx120_4
        have HR120_4 := a_ hi120_4
        have HC120_4 := a_ hl120_4
        clear hi120_4 hl120_4
        replace p120 := eq_true p120
        replace q120 := eq_true q120
        go_wp2_with (first | ((with_reducible refine gd_ 6 ?_); (try (refine gate_guard (by rfl) ?_; dsimp only)); refine bx_ 6 #[.int .u64 0, .int .u64 0, .int .u8 0, .string (⟨#[]⟩ : ByteArray), .slice none 0 0] 67 ?_; intro gb121 hg w40 hbox hb; have BK121 := a_ (hbox); have GE121 := a_ (bs_1 hg HB GE117); replace HB := hB_ (bl_1 HB GE117) hb; have NB117_121 := nB_ hg BK117; have NB121_117 := nC_ hg BK117; replace BK117 := bB_ BK117 hb; clear hb hbox hg; have hnb41 := NB121_117.out; have hnc41 := NB117_121.out; obtain ⟨hcz42_0, hcz42_1, hcz42_2, hcz42_3, hcz42_4, hfz42_0, hfz42_1, hfz42_2, hfz42_3, hfz42_4⟩ := c5_ BK121) | ((with_reducible refine gk_ 37 ?_); refine gl_ (some 59) Try.func37 #[.agg #[.int .u64 ((rd_T67 l0_6 x51_3).f0), .int .u64 ((rd_T67 l0_6 x51_3).f1), .int .u8 ((rd_T67 l0_6 x51_3).f2), .string ((rd_T67 l0_6 x51_3).f3), .slice A120_4 ((rd_T67 l0_6 x51_3).f4).length c120_4]] ?_; (with_reducible refine (wal_Check.calls k3 ((rd_T67 l0_6 x51_3).f0) ((rd_T67 l0_6 x51_3).f1) ((rd_T67 l0_6 x51_3).f2) ((rd_T67 l0_6 x51_3).f3) _ _ ((rd_T67 l0_6 x51_3).f4) t122 _ ?side1 ?side2 A32.out).mono ?_); (case side1 => exact Kd.C_below HR120_4.out (bl_2 HB GE117 GE121)); (case side2 => exact HC120_4.out); rintro e w43 ⟨rfl, hb⟩; refine ⟨_, rfl, ?_⟩; replace BK117 := a_ (blk_below (g := gb117) (o := .cells #[.int .u8 a0_0, .int .u64 a0_1, .int .u64 a0_2, .int .u64 a0_3, .int .u64 a0_4, .bool a0_5, .slice (some ad120) l0_6.length c0_6, .int .u64 a0_7, .int .u64 a0_8, .slice A0_9 l0_9.length c0_9, .string a0_10] 37 (0, 0)) (bp_1 BK117 NB117_121) hb); replace BK121 := a_ (blk_below (g := gb121) (o := .cells #[.int .u64 ((rd_T67 l0_6 x51_3).f0), .int .u64 ((rd_T67 l0_6 x51_3).f1), .int .u8 ((rd_T67 l0_6 x51_3).f2), .string ((rd_T67 l0_6 x51_3).f3), .slice A120_4 ((rd_T67 l0_6 x51_3).f4).length c120_4] 67 (0, 0)) (bp_0 BK121) hb); replace HB := hB_ (bl_2 HB GE117 GE121) hb; (try clear hb); obtain ⟨hcz44_0, hcz44_1, hcz44_2, hcz44_3, hcz44_4, hfz44_0, hfz44_1, hfz44_2, hfz44_3, hfz44_4⟩ := c5_ BK121))
        repeat (go_step3; try (go_wp2_with (first | ((with_reducible refine gd_ 6 ?_); (try (refine gate_guard (by rfl) ?_; dsimp only)); refine bx_ 6 #[.int .u64 0, .int .u64 0, .int .u8 0, .string (⟨#[]⟩ : ByteArray), .slice none 0 0] 67 ?_; intro gb121 hg w40 hbox hb; have BK121 := a_ (hbox); have GE121 := a_ (bs_1 hg HB GE117); replace HB := hB_ (bl_1 HB GE117) hb; have NB117_121 := nB_ hg BK117; have NB121_117 := nC_ hg BK117; replace BK117 := bB_ BK117 hb; clear hb hbox hg; have hnb41 := NB121_117.out; have hnc41 := NB117_121.out; obtain ⟨hcz42_0, hcz42_1, hcz42_2, hcz42_3, hcz42_4, hfz42_0, hfz42_1, hfz42_2, hfz42_3, hfz42_4⟩ := c5_ BK121) | ((with_reducible refine gk_ 37 ?_); refine gl_ (some 59) Try.func37 #[.agg #[.int .u64 ((rd_T67 l0_6 x51_3).f0), .int .u64 ((rd_T67 l0_6 x51_3).f1), .int .u8 ((rd_T67 l0_6 x51_3).f2), .string ((rd_T67 l0_6 x51_3).f3), .slice A120_4 ((rd_T67 l0_6 x51_3).f4).length c120_4]] ?_; (with_reducible refine (wal_Check.calls k3 ((rd_T67 l0_6 x51_3).f0) ((rd_T67 l0_6 x51_3).f1) ((rd_T67 l0_6 x51_3).f2) ((rd_T67 l0_6 x51_3).f3) _ _ ((rd_T67 l0_6 x51_3).f4) t122 _ ?side1 ?side2 A32.out).mono ?_); (case side1 => exact Kd.C_below HR120_4.out (bl_2 HB GE117 GE121)); (case side2 => exact HC120_4.out); rintro e w43 ⟨rfl, hb⟩; refine ⟨_, rfl, ?_⟩; replace BK117 := a_ (blk_below (g := gb117) (o := .cells #[.int .u8 a0_0, .int .u64 a0_1, .int .u64 a0_2, .int .u64 a0_3, .int .u64 a0_4, .bool a0_5, .slice (some ad120) l0_6.length c0_6, .int .u64 a0_7, .int .u64 a0_8, .slice A0_9 l0_9.length c0_9, .string a0_10] 37 (0, 0)) (bp_1 BK117 NB117_121) hb); replace BK121 := a_ (blk_below (g := gb121) (o := .cells #[.int .u64 ((rd_T67 l0_6 x51_3).f0), .int .u64 ((rd_T67 l0_6 x51_3).f1), .int .u8 ((rd_T67 l0_6 x51_3).f2), .string ((rd_T67 l0_6 x51_3).f3), .slice A120_4 ((rd_T67 l0_6 x51_3).f4).length c120_4] 67 (0, 0)) (bp_0 BK121) hb); replace HB := hB_ (bl_2 HB GE117 GE121) hb; (try clear hb); obtain ⟨hcz44_0, hcz44_1, hcz44_2, hcz44_3, hcz44_4, hfz44_0, hfz44_1, hfz44_2, hfz44_3, hfz44_4⟩ := c5_ BK121))))
        try dsimp only [Exit.noGoto]
        go_ret
        exact ⟨fz_, bl_2 HB GE117 GE121⟩
       rw [if_pos c34] at H
       have c34b0 : (((rd_T67 l0_6 x51_3).f0) == (IntKind.u64.wrap (x4_3 + 1))) = true := beq_iff_eq.mpr c34
       have c34b1 : (((rd_T67 l0_6 x51_3).f0) != (IntKind.u64.wrap (x4_3 + 1))) = false := bne_eq_false_iff_eq.mpr c34
       clear c34
       have H' := a_ H
       clear H
       have p120 : 0 ≤ (x51_3 : Int) := od_
       have q120 : x51_3 < (l0_6.length : Int) := od_
       obtain ⟨ad120, A120_4, c120_4, e120, hx120_0, hx120_1, hx120_2, hx120_3, hx120_4, hl120_4, hi120_4⟩ := at_T67 HR0_6.out x51_3 p120 q120
       cases e120
       replace hx120_0 := hc_ HB hx120_0
       replace hx120_1 := hc_ HB hx120_1
       replace hx120_2 := hc_ HB hx120_2
       replace hx120_3 := hc_ HB hx120_3
       replace hx120_4 := hc_ HB hx120_4
       have HR120_4 := a_ hi120_4
       have HC120_4 := a_ hl120_4
       clear hi120_4 hl120_4
       replace p120 := eq_true p120
       replace q120 := eq_true q120
       go_wp2_with (first | ((with_reducible refine gd_ 6 ?_); (try (refine gate_guard (by rfl) ?_; dsimp only)); refine bx_ 6 #[.int .u64 0, .int .u64 0, .int .u8 0, .string (⟨#[]⟩ : ByteArray), .slice none 0 0] 67 ?_; intro gb121 hg w35 hbox hb; have BK121 := a_ (hbox); have GE121 := a_ (bs_1 hg HB GE117); replace HB := hB_ (bl_1 HB GE117) hb; have NB117_121 := nB_ hg BK117; have NB121_117 := nC_ hg BK117; replace BK117 := bB_ BK117 hb; clear hb hbox hg; have hnb36 := NB121_117.out; have hnc36 := NB117_121.out; obtain ⟨hcz37_0, hcz37_1, hcz37_2, hcz37_3, hcz37_4, hfz37_0, hfz37_1, hfz37_2, hfz37_3, hfz37_4⟩ := c5_ BK121) | ((with_reducible refine gk_ 37 ?_); refine gl_ (some 59) Try.func37 #[.agg #[.int .u64 ((rd_T67 l0_6 x51_3).f0), .int .u64 ((rd_T67 l0_6 x51_3).f1), .int .u8 ((rd_T67 l0_6 x51_3).f2), .string ((rd_T67 l0_6 x51_3).f3), .slice A120_4 ((rd_T67 l0_6 x51_3).f4).length c120_4]] ?_; (with_reducible refine (wal_Check.calls k3 ((rd_T67 l0_6 x51_3).f0) ((rd_T67 l0_6 x51_3).f1) ((rd_T67 l0_6 x51_3).f2) ((rd_T67 l0_6 x51_3).f3) _ _ ((rd_T67 l0_6 x51_3).f4) t122 _ ?side1 ?side2 A32.out).mono ?_); (case side1 => exact Kd.C_below HR120_4.out (bl_2 HB GE117 GE121)); (case side2 => exact HC120_4.out); rintro e w38 ⟨rfl, hb⟩; refine ⟨_, rfl, ?_⟩; replace BK117 := a_ (blk_below (g := gb117) (o := .cells #[.int .u8 a0_0, .int .u64 a0_1, .int .u64 a0_2, .int .u64 a0_3, .int .u64 a0_4, .bool a0_5, .slice (some ad120) l0_6.length c0_6, .int .u64 a0_7, .int .u64 a0_8, .slice A0_9 l0_9.length c0_9, .string a0_10] 37 (0, 0)) (bp_1 BK117 NB117_121) hb); replace BK121 := a_ (blk_below (g := gb121) (o := .cells #[.int .u64 ((rd_T67 l0_6 x51_3).f0), .int .u64 ((rd_T67 l0_6 x51_3).f1), .int .u8 ((rd_T67 l0_6 x51_3).f2), .string ((rd_T67 l0_6 x51_3).f3), .slice A120_4 ((rd_T67 l0_6 x51_3).f4).length c120_4] 67 (0, 0)) (bp_0 BK121) hb); replace HB := hB_ (bl_2 HB GE117 GE121) hb; (try clear hb); obtain ⟨hcz39_0, hcz39_1, hcz39_2, hcz39_3, hcz39_4, hfz39_0, hfz39_1, hfz39_2, hfz39_3, hfz39_4⟩ := c5_ BK121))
       repeat (go_step3; try (go_wp2_with (first | ((with_reducible refine gd_ 6 ?_); (try (refine gate_guard (by rfl) ?_; dsimp only)); refine bx_ 6 #[.int .u64 0, .int .u64 0, .int .u8 0, .string (⟨#[]⟩ : ByteArray), .slice none 0 0] 67 ?_; intro gb121 hg w35 hbox hb; have BK121 := a_ (hbox); have GE121 := a_ (bs_1 hg HB GE117); replace HB := hB_ (bl_1 HB GE117) hb; have NB117_121 := nB_ hg BK117; have NB121_117 := nC_ hg BK117; replace BK117 := bB_ BK117 hb; clear hb hbox hg; have hnb36 := NB121_117.out; have hnc36 := NB117_121.out; obtain ⟨hcz37_0, hcz37_1, hcz37_2, hcz37_3, hcz37_4, hfz37_0, hfz37_1, hfz37_2, hfz37_3, hfz37_4⟩ := c5_ BK121) | ((with_reducible refine gk_ 37 ?_); refine gl_ (some 59) Try.func37 #[.agg #[.int .u64 ((rd_T67 l0_6 x51_3).f0), .int .u64 ((rd_T67 l0_6 x51_3).f1), .int .u8 ((rd_T67 l0_6 x51_3).f2), .string ((rd_T67 l0_6 x51_3).f3), .slice A120_4 ((rd_T67 l0_6 x51_3).f4).length c120_4]] ?_; (with_reducible refine (wal_Check.calls k3 ((rd_T67 l0_6 x51_3).f0) ((rd_T67 l0_6 x51_3).f1) ((rd_T67 l0_6 x51_3).f2) ((rd_T67 l0_6 x51_3).f3) _ _ ((rd_T67 l0_6 x51_3).f4) t122 _ ?side1 ?side2 A32.out).mono ?_); (case side1 => exact Kd.C_below HR120_4.out (bl_2 HB GE117 GE121)); (case side2 => exact HC120_4.out); rintro e w38 ⟨rfl, hb⟩; refine ⟨_, rfl, ?_⟩; replace BK117 := a_ (blk_below (g := gb117) (o := .cells #[.int .u8 a0_0, .int .u64 a0_1, .int .u64 a0_2, .int .u64 a0_3, .int .u64 a0_4, .bool a0_5, .slice (some ad120) l0_6.length c0_6, .int .u64 a0_7, .int .u64 a0_8, .slice A0_9 l0_9.length c0_9, .string a0_10] 37 (0, 0)) (bp_1 BK117 NB117_121) hb); replace BK121 := a_ (blk_below (g := gb121) (o := .cells #[.int .u64 ((rd_T67 l0_6 x51_3).f0), .int .u64 ((rd_T67 l0_6 x51_3).f1), .int .u8 ((rd_T67 l0_6 x51_3).f2), .string ((rd_T67 l0_6 x51_3).f3), .slice A120_4 ((rd_T67 l0_6 x51_3).f4).length c120_4] 67 (0, 0)) (bp_0 BK121) hb); replace HB := hB_ (bl_2 HB GE117 GE121) hb; (try clear hb); obtain ⟨hcz39_0, hcz39_1, hcz39_2, hcz39_3, hcz39_4, hfz39_0, hfz39_1, hfz39_2, hfz39_3, hfz39_4⟩ := c5_ BK121))))
       go_roundg k3
       case measure => have := HJ1.out; have := HJ16.out; have := HK3.out; omega
       case rel => exact ⟨(x3_3), (IntKind.u64.wrap (x4_3 + 1)), (wrap64 (x51_3 + 1)), fz_, fz_, fz_, H', ⟨by have := HJ1.out; have := HJ16.out; have := HK3.out; omega⟩, ⟨bk_ BK117⟩, ⟨bl_2 HB GE117 GE121⟩⟩end Go.Proofs.Ytcdibodjkdoknaa.PM
