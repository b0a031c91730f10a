-- Written for this claim by a program of this session. Lean checks it.
import Derived.Test.YtpigjmjbfpipnaaPEx0
namespace Go.Proofs.Ytpigjmjbfpipnaa.PE
open Go.RowKit Go.Proofs.YtpigjmjbfpipnaaW.PrintWords Go.Proofs.YtpigjmjbfpipnaaW.PrintLast Go.Proofs.YtpigjmjbfpipnaaW.PrintMore Go.Proofs.Ytpigjmjbfpipnaa.Sh Go.Proofs.Ytpigjmjbfpipnaa.Op
attribute [local go_sem] max2_int min2_int max_two min_two max_three min_three max_four min_four   -- for this text's walks alone
set_option linter.unusedVariables false
set_option maxHeartbeats 80000000
set_option maxRecDepth 100000
set_option linter.unusedSimpArgs false

/-! ### disk_Check: function 37 -/
def disk_Check.l0 : Nat → Bool → List (S71) → Int → Int → List (S71) → Bool → Int → Option (Int)
 | 0, _, _, _, _, _, _, _ => none
 | k + 1, x3, x7, x8, x9, x102000, x102001, x102002 => if x9 < x8 then (if 0 ≤ x9 then (if x9 < (x7.length : Int) then (if x3 = true then (if x9 = 0 then (if ((rd_T71 x7 x9).f2) ≥ 0 then (disk_Check.l0 k (decide (((rd_T71 x7 x9).f2) ≤ (((rd_T71 x7 x9).f1).size : Int))) x7 x8 (wrap64 (x9 + 1)) x102000 x102001 x102002) else (disk_Check.l0 k false x7 x8 (wrap64 (x9 + 1)) x102000 x102001 x102002)) else (if 0 ≤ (wrap64 (x9 - 1)) then (if (wrap64 (x9 - 1)) < (x102000.length : Int) then (if (Op.bytesLess (((rd_T71 x102000 (wrap64 (x9 - 1))).f0).toList) (((rd_T71 x7 x9).f0).toList)) = true then (if ((rd_T71 x7 x9).f2) ≥ 0 then (disk_Check.l0 k (decide (((rd_T71 x7 x9).f2) ≤ (((rd_T71 x7 x9).f1).size : Int))) x7 x8 (wrap64 (x9 + 1)) x102000 x102001 x102002) else (disk_Check.l0 k false x7 x8 (wrap64 (x9 + 1)) x102000 x102001 x102002)) else (disk_Check.l0 k false x7 x8 (wrap64 (x9 + 1)) x102000 x102001 x102002)) else (none)) else (none))) else (disk_Check.l0 k false x7 x8 (wrap64 (x9 + 1)) x102000 x102001 x102002)) else (none)) else (none)) else (if x3 = true then (if (x102000.length : Int) > 4096 then (some 10) else (some 0)) else (some 10))
def disk_Check.f (k : Nat) (l0_0 : List (S71)) (a0_1 : Bool) (a0_2 : Int) : Option (Int) := disk_Check.l0 k true l0_0 (l0_0.length : Int) 0 l0_0 a0_1 a0_2
theorem disk_Check.mono_l : ∀ k, (∀ y0 y1 y2 y3 y4 y5 y6, LeO (disk_Check.l0 k y0 y1 y2 y3 y4 y5 y6) (disk_Check.l0 (k + 1) y0 y1 y2 y3 y4 y5 y6))
 | 0 => fun _ _ _ _ _ _ _ r h => by simp [disk_Check.l0] at h
 | k + 1 => by
  have ih0 := disk_Check.mono_l k
  ·intro y0 y1 y2 y3 y4 y5 y6
   unfold disk_Check.l0
   repeat' with_reducible first | exact ih0 _ _ _ _ _ _ _ | exact LeO.refl _ | exact LeO.none _ | refine LeO.ite ?_ ?_ | refine LeO.bind ?_ (fun _ => ?_)
theorem disk_Check.mono : ∀ a0 a1 a2 k, LeO (disk_Check.f k a0 a1 a2) (disk_Check.f (k + 1) a0 a1 a2) := by
 intro a0 a1 a2 k
 have ih0 := disk_Check.mono_l k
 unfold disk_Check.f
 repeat' with_reducible first | exact ih0 _ _ _ _ _ _ _ | exact LeO.refl _ | exact LeO.none _ | refine LeO.ite ?_ ?_ | refine LeO.bind ?_ (fun _ => ?_)
theorem disk_Check.calls (k : Nat) (A0_0 : Option Addr) (c0_0 : Nat) (l0_0 : List (S71)) (a0_1 : Bool) (a0_2 : Int) (r : Int) (w : World) (hr0_0 : Kd.C k71 w A0_0 l0_0.length l0_0) (hc0_0 : l0_0.length ≤ c0_0) (h : disk_Check.f k l0_0 a0_1 a0_2 = some r) :
  Calls Try.prog 37 #[.agg #[.slice A0_0 l0_0.length c0_0, .bool a0_1, .int .i64 a0_2]] w fun e w' => e = .returned (.int .i64 r) ∧ Below w.heap.size w w' := by
 have hu24 := Try.underlying24
 have hu71 := Try.underlying71
 have HR0_0 := a_ hr0_0
 have HC0_0 := a_ hc0_0
 clear hr0_0 hc0_0
 have HB := a_ (Below.refl w.heap.size w)
 have H : (disk_Check.l0 k true l0_0 (l0_0.length : Int) 0 l0_0 a0_1 a0_2) = some r := h
 clear h
 have H' := a_ H
 clear H
 go_enter Try.func37, Try.ntmps37
 go_wp2_with (first | (first | ((with_reducible refine gd_ 1 ?_); (try (refine gate_guard (by rfl) ?_; dsimp only)); refine bx_ 1 #[.slice A0_0 l0_0.length c0_0, .bool a0_1, .int .i64 a0_2] 24 ?_; intro gb101 hg w2 hbox hb; have BK101 := a_ (hbox); have GE101 := a_ (bs_0 hg HB); replace HB := hB_ (bl_ HB) hb; clear hb hbox hg; obtain ⟨hcz3_0, hcz3_1, hcz3_2, hfz3_0, hfz3_1, hfz3_2⟩ := c3_ BK101)) | go_quiet (first | ((with_reducible refine gd_ 1 ?_); (try (refine gate_guard (by rfl) ?_; dsimp only)); refine bx_ 1 #[.slice A0_0 l0_0.length c0_0, .bool a0_1, .int .i64 a0_2] 24 ?_; intro gb101 hg w2 hbox hb; have BK101 := a_ (hbox); have GE101 := a_ (bs_0 hg HB); replace HB := hB_ (bl_ HB) hb; clear hb hbox hg; obtain ⟨hcz3_0, hcz3_1, hcz3_2, hfz3_0, hfz3_1, hfz3_2⟩ := c3_ BK101)))
 go_loopg [3, 9] k (fun kq v3 v9 w' => ∃ (x3_1 : Bool) (x9_1 : Int), v3 = .bool x3_1 ∧ v9 = .int .i64 x9_1 ∧ Aside0 (disk_Check.l0 kq x3_1 l0_0 (l0_0.length : Int) x9_1 l0_0 a0_1 a0_2 = some r) ∧ Aside0 (kq ≤ k) ∧ Aside0 (w'.heap[gb101]? = some (.cells #[(.slice A0_0 l0_0.length c0_0), .bool a0_1, .int .i64 a0_2] 24 (0, 0))) ∧ Aside0 (Below w.heap.size w w'))
 case atStart => exact ⟨(true), (0), fz_, fz_, H', ⟨Nat.le_refl _⟩, ⟨bk_ BK101⟩, ⟨bl_1 HB GE101⟩⟩
 case round =>
  clear H'
  try clear p2
  try clear c3
  obtain ⟨x3_1, x9_1, rfl, rfl, HA, HK1, BK101, HB⟩ := hrel
  cases gk with
  | zero => exact absurd HA.out (by simp [disk_Check.l0])
  | succ k1 =>
   have H := HA.out
   clear HA
   simp only [disk_Check.l0] at H
   by_cases c4 : x9_1 < (l0_0.length : Int)
   rotate_left
   ·rw [if_neg c4] at H
    have c4b0 : decide (x9_1 < (l0_0.length : Int)) = false := decide_eq_false c4
    clear c4
    by_cases c36 : x3_1 = true
    rotate_left
    ·replace c36 := Bool.eq_false_iff.mpr c36
     subst c36
     have H1 : (some 10) = some r := by rw [if_neg (show ¬ (false = true) by decide)] at H; exact H
     clear H
     have H := H1
     clear H1
     obtain rfl := Option.some.inj H
     go_wp2
     repeat (go_quiet (fail); try go_wp2)
     go_ret
     exact ⟨fz_, bl_1 HB GE101⟩


    subst c36
    have H1 : (if (l0_0.length : Int) > 4096 then (some 10) else (some 0)) = some r := by rw [if_pos rfl] at H; exact H
    clear H
    have H := H1
    clear H1
    by_cases c37 : (l0_0.length : Int) > 4096
    ·rw [if_pos c37] at H
     have c37b0 : decide (4096 < (l0_0.length : Int)) = true := decide_eq_true c37
     have c37b1 : decide (4096 < l0_0.length) = true := decide_eq_true (by omega)
     clear c37
     obtain rfl := Option.some.inj H
     obtain ⟨hcz38_0, hcz38_1, hcz38_2, hfz38_0, hfz38_1, hfz38_2⟩ := c3_ BK101
     go_wp2
     repeat (go_quiet (fail); try go_wp2)
     go_ret
     exact ⟨fz_, bl_1 HB GE101⟩
    rw [if_neg c37] at H
    have c37b0 : decide (4096 < (l0_0.length : Int)) = false := decide_eq_false c37
    have c37b1 : decide (4096 < l0_0.length) = false := decide_eq_false (by omega)
    clear c37
    obtain rfl := Option.some.inj H
    obtain ⟨hcz39_0, hcz39_1, hcz39_2, hfz39_0, hfz39_1, hfz39_2⟩ := c3_ BK101
    go_wp2
    repeat (go_quiet (fail); try go_wp2)
    go_ret
    exact ⟨fz_, bl_1 HB GE101⟩
   rw [if_pos c4] at H
   have c4b0 : decide (x9_1 < (l0_0.length : Int)) = true := decide_eq_true c4
   clear c4
   by_cases c5 : 0 ≤ x9_1
   rotate_left
   ·rw [if_neg c5] at H
    exact absurd H (by simp)
   rw [if_pos c5] at H
   have c5b0 : decide (0 ≤ x9_1) = true := decide_eq_true c5
   clear c5
   by_cases c6 : x9_1 < (l0_0.length : Int)
   rotate_left
   ·rw [if_neg c6] at H
    exact absurd H (by simp)
   rw [if_pos c6] at H
   have c6b0 : decide (x9_1 < (l0_0.length : Int)) = true := decide_eq_true c6
   clear c6
   by_cases c7 : x3_1 = true
   rotate_left
   ·replace c7 := Bool.eq_false_iff.mpr c7
    subst c7
    have H1 : (disk_Check.l0 k1 false l0_0 (l0_0.length : Int) (wrap64 (x9_1 + 1)) l0_0 a0_1 a0_2) = some r := by rw [if_neg (show ¬ (false = true) by decide)] at H; exact H
    clear H
    have H := H1
    clear H1
    have H' := a_ H
    clear H
    have p102 : 0 ≤ (x9_1 : Int) := od_
    have q102 : x9_1 < (l0_0.length : Int) := od_
    obtain ⟨ad102, e102, hx102_0, hx102_1, hx102_2⟩ := at_T71 HR0_0.out x9_1 p102 q102
    cases e102
    replace hx102_0 := hc_ HB hx102_0
    replace hx102_1 := hc_ HB hx102_1
    replace hx102_2 := hc_ HB hx102_2
    replace p102 := eq_true p102
    replace q102 := eq_true q102
    go_wp2_with (first | (first | ((with_reducible refine gd_ 5 ?_); (try (refine gate_guard (by rfl) ?_; dsimp only)); refine bx_ 5 #[.string (⟨#[]⟩ : ByteArray), .string (⟨#[]⟩ : ByteArray), .int .i64 0] 71 ?_; intro gb103 hg w33 hbox hb; have BK103 := a_ (hbox); have GW103 := a_ (bs_1 hg HB GE101); have GE103 := a_ (bs_1 hg HB GE101); replace HB := hB_ (bl_1 HB GE101) hb; have NB101_103 := nB_ hg BK101; have NB103_101 := nC_ hg BK101; replace BK101 := bB_ BK101 hb; clear hb hbox hg; have hnb34 := NB103_101.out; have hnc34 := NB101_103.out; obtain ⟨hcz35_0, hcz35_1, hcz35_2, hfz35_0, hfz35_1, hfz35_2⟩ := c3_ BK103)) | go_quiet (first | ((with_reducible refine gd_ 5 ?_); (try (refine gate_guard (by rfl) ?_; dsimp only)); refine bx_ 5 #[.string (⟨#[]⟩ : ByteArray), .string (⟨#[]⟩ : ByteArray), .int .i64 0] 71 ?_; intro gb103 hg w33 hbox hb; have BK103 := a_ (hbox); have GW103 := a_ (bs_1 hg HB GE101); have GE103 := a_ (bs_1 hg HB GE101); replace HB := hB_ (bl_1 HB GE101) hb; have NB101_103 := nB_ hg BK101; have NB103_101 := nC_ hg BK101; replace BK101 := bB_ BK101 hb; clear hb hbox hg; have hnb34 := NB103_101.out; have hnc34 := NB101_103.out; obtain ⟨hcz35_0, hcz35_1, hcz35_2, hfz35_0, hfz35_1, hfz35_2⟩ := c3_ BK103)))
    go_roundg k1
    case measure => have := HK1.out; omega
    case rel => exact ⟨(false), (wrap64 (x9_1 + 1)), fz_, fz_, H', ⟨by have := HK1.out; omega⟩, ⟨by refine bq_ ?_; refine blk_far ?_ NB101_103.out _; refine bq_ ?_; refine blk_far ?_ NB101_103.out _; refine bq_ ?_; refine blk_far ?_ NB101_103.out _; refine bq_ ?_; exact BK101.out⟩, ⟨bl_2 HB GE101 GE103⟩⟩
   subst c7
   have H1 : (if x9_1 = 0 then (if ((rd_T71 l0_0 x9_1).f2) ≥ 0 then (disk_Check.l0 k1 (decide (((rd_T71 l0_0 x9_1).f2) ≤ (((rd_T71 l0_0 x9_1).f1).size : Int))) l0_0 (l0_0.length : Int) (wrap64 (x9_1 + 1)) l0_0 a0_1 a0_2) else (disk_Check.l0 k1 false l0_0 (l0_0.length : Int) (wrap64 (x9_1 + 1)) l0_0 a0_1 a0_2)) else (if 0 ≤ (wrap64 (x9_1 - 1)) then (if (wrap64 (x9_1 - 1)) < (l0_0.length : Int) then (if (Op.bytesLess (((rd_T71 l0_0 (wrap64 (x9_1 - 1))).f0).toList) (((rd_T71 l0_0 x9_1).f0).toList)) = true then (if ((rd_T71 l0_0 x9_1).f2) ≥ 0 then (disk_Check.l0 k1 (decide (((rd_T71 l0_0 x9_1).f2) ≤ (((rd_T71 l0_0 x9_1).f1).size : Int))) l0_0 (l0_0.length : Int) (wrap64 (x9_1 + 1)) l0_0 a0_1 a0_2) else (disk_Check.l0 k1 false l0_0 (l0_0.length : Int) (wrap64 (x9_1 + 1)) l0_0 a0_1 a0_2)) else (disk_Check.l0 k1 false l0_0 (l0_0.length : Int) (wrap64 (x9_1 + 1)) l0_0 a0_1 a0_2)) else (none)) else (none))) = some r := by rw [if_pos rfl] at H; exact H
   clear H
   have H := H1
   clear H1
   by_cases c8 : x9_1 = 0
   ·rw [if_pos c8] at H
    have c8b0 : (x9_1 == 0) = true := beq_iff_eq.mpr c8
    have c8b1 : (x9_1 != 0) = false := bne_eq_false_iff_eq.mpr c8
    clear c8
    by_cases c9 : ((rd_T71 l0_0 x9_1).f2) ≥ 0
    rotate_left
    ·rw [if_neg c9] at H
     have c9b0 : decide (0 ≤ ((rd_T71 l0_0 x9_1).f2)) = false := decide_eq_false c9
     clear c9
     have H' := a_ H
     clear H
     have p102 : 0 ≤ (x9_1 : Int) := od_
     have q102 : x9_1 < (l0_0.length : Int) := od_
     obtain ⟨ad102, e102, hx102_0, hx102_1, hx102_2⟩ := at_T71 HR0_0.out x9_1 p102 q102
     cases e102
     replace hx102_0 := hc_ HB hx102_0
     replace hx102_1 := hc_ HB hx102_1
     replace hx102_2 := hc_ HB hx102_2
     replace p102 := eq_true p102
     replace q102 := eq_true q102
     go_wp2_with (first | (first | ((with_reducible refine gd_ 5 ?_); (try (refine gate_guard (by rfl) ?_; dsimp only)); refine bx_ 5 #[.string (⟨#[]⟩ : ByteArray), .string (⟨#[]⟩ : ByteArray), .int .i64 0] 71 ?_; intro gb103 hg w13 hbox hb; have BK103 := a_ (hbox); have GW103 := a_ (bs_1 hg HB GE101); have GE103 := a_ (bs_1 hg HB GE101); replace HB := hB_ (bl_1 HB GE101) hb; have NB101_103 := nB_ hg BK101; have NB103_101 := nC_ hg BK101; replace BK101 := bB_ BK101 hb; clear hb hbox hg; have hnb14 := NB103_101.out; have hnc14 := NB101_103.out; obtain ⟨hcz15_0, hcz15_1, hcz15_2, hfz15_0, hfz15_1, hfz15_2⟩ := c3_ BK103)) | go_quiet (first | ((with_reducible refine gd_ 5 ?_); (try (refine gate_guard (by rfl) ?_; dsimp only)); refine bx_ 5 #[.string (⟨#[]⟩ : ByteArray), .string (⟨#[]⟩ : ByteArray), .int .i64 0] 71 ?_; intro gb103 hg w13 hbox hb; have BK103 := a_ (hbox); have GW103 := a_ (bs_1 hg HB GE101); have GE103 := a_ (bs_1 hg HB GE101); replace HB := hB_ (bl_1 HB GE101) hb; have NB101_103 := nB_ hg BK101; have NB103_101 := nC_ hg BK101; replace BK101 := bB_ BK101 hb; clear hb hbox hg; have hnb14 := NB103_101.out; have hnc14 := NB101_103.out; obtain ⟨hcz15_0, hcz15_1, hcz15_2, hfz15_0, hfz15_1, hfz15_2⟩ := c3_ BK103)))
     go_roundg k1
     case measure => have := HK1.out; omega
     case rel => exact ⟨(false), (wrap64 (x9_1 + 1)), fz_, fz_, H', ⟨by have := HK1.out; omega⟩, ⟨by refine bq_ ?_; refine blk_far ?_ NB101_103.out _; refine bq_ ?_; refine blk_far ?_ NB101_103.out _; refine bq_ ?_; refine blk_far ?_ NB101_103.out _; refine bq_ ?_; exact BK101.out⟩, ⟨bl_2 HB GE101 GE103⟩⟩
    rw [if_pos c9] at H
    have c9b0 : decide (0 ≤ ((rd_T71 l0_0 x9_1).f2)) = true := decide_eq_true c9
    clear c9
    have H' := a_ H
    clear H
    have p102 : 0 ≤ (x9_1 : Int) := od_
    have q102 : x9_1 < (l0_0.length : Int) := od_
    obtain ⟨ad102, e102, hx102_0, hx102_1, hx102_2⟩ := at_T71 HR0_0.out x9_1 p102 q102
    cases e102
    replace hx102_0 := hc_ HB hx102_0
    replace hx102_1 := hc_ HB hx102_1
    replace hx102_2 := hc_ HB hx102_2
    replace p102 := eq_true p102
    replace q102 := eq_true q102
    go_wp2_with (first | (first | ((with_reducible refine gd_ 5 ?_); (try (refine gate_guard (by rfl) ?_; dsimp only)); refine bx_ 5 #[.string (⟨#[]⟩ : ByteArray), .string (⟨#[]⟩ : ByteArray), .int .i64 0] 71 ?_; intro gb103 hg w10 hbox hb; have BK103 := a_ (hbox); have GW103 := a_ (bs_1 hg HB GE101); have GE103 := a_ (bs_1 hg HB GE101); replace HB := hB_ (bl_1 HB GE101) hb; have NB101_103 := nB_ hg BK101; have NB103_101 := nC_ hg BK101; replace BK101 := bB_ BK101 hb; clear hb hbox hg; have hnb11 := NB103_101.out; have hnc11 := NB101_103.out; obtain ⟨hcz12_0, hcz12_1, hcz12_2, hfz12_0, hfz12_1, hfz12_2⟩ := c3_ BK103)) | go_quiet (first | ((with_reducible refine gd_ 5 ?_); (try (refine gate_guard (by rfl) ?_; dsimp only)); refine bx_ 5 #[.string (⟨#[]⟩ : ByteArray), .string (⟨#[]⟩ : ByteArray), .int .i64 0] 71 ?_; intro gb103 hg w10 hbox hb; have BK103 := a_ (hbox); have GW103 := a_ (bs_1 hg HB GE101); have GE103 := a_ (bs_1 hg HB GE101); replace HB := hB_ (bl_1 HB GE101) hb; have NB101_103 := nB_ hg BK101; have NB103_101 := nC_ hg BK101; replace BK101 := bB_ BK101 hb; clear hb hbox hg; have hnb11 := NB103_101.out; have hnc11 := NB101_103.out; obtain ⟨hcz12_0, hcz12_1, hcz12_2, hfz12_0, hfz12_1, hfz12_2⟩ := c3_ BK103)))
    go_roundg k1
    case measure => have := HK1.out; omega
    case rel => exact ⟨(decide (((rd_T71 l0_0 x9_1).f2) ≤ (((rd_T71 l0_0 x9_1).f1).size : Int))), (wrap64 (x9_1 + 1)), fz_, fz_, H', ⟨by have := HK1.out; omega⟩, ⟨by refine bq_ ?_; refine blk_far ?_ NB101_103.out _; refine bq_ ?_; refine blk_far ?_ NB101_103.out _; refine bq_ ?_; refine blk_far ?_ NB101_103.out _; refine bq_ ?_; exact BK101.out⟩, ⟨bl_2 HB GE101 GE103⟩⟩
   rw [if_neg c8] at H
   have c8b0 : (x9_1 == 0) = false := beq_eq_false_iff_ne.mpr c8
   have c8b1 : (x9_1 != 0) = true := bne_iff_ne.mpr c8
   obtain ⟨ji16, hji16⟩ : ∃ j_ : Int, (wrap64 (x9_1 - 1)) = j_ := ⟨_, rfl⟩
   replace H : (if 0 ≤ (ji16) then (if (ji16) < (l0_0.length : Int) then (if (Op.bytesLess (((rd_T71 l0_0 (ji16)).f0).toList) (((rd_T71 l0_0 x9_1).f0).toList)) = true then (if ((rd_T71 l0_0 x9_1).f2) ≥ 0 then (disk_Check.l0 k1 (decide (((rd_T71 l0_0 x9_1).f2) ≤ (((rd_T71 l0_0 x9_1).f1).size : Int))) l0_0 (l0_0.length : Int) (wrap64 (x9_1 + 1)) l0_0 a0_1 a0_2) else (disk_Check.l0 k1 false l0_0 (l0_0.length : Int) (wrap64 (x9_1 + 1)) l0_0 a0_1 a0_2)) else (disk_Check.l0 k1 false l0_0 (l0_0.length : Int) (wrap64 (x9_1 + 1)) l0_0 a0_1 a0_2)) else (none)) else (none)) = some r := by first | (rw [hji16] at H; exact H) | (simp only [hji16] at H ⊢; exact H)
   have hji16w : (IntKind.i64.wrap (x9_1 - 1)) = ji16 := (i64_w _).trans hji16
   by_cases c17 : 0 ≤ (ji16)
   rotate_left
   ·rw [if_neg c17] at H
    exact absurd H (by simp)
   rw [if_pos c17] at H
   have c17b0 : decide (0 ≤ (ji16)) = true := decide_eq_true c17
   clear c17
   by_cases c18 : (ji16) < (l0_0.length : Int)
   rotate_left
   ·rw [if_neg c18] at H
    exact absurd H (by simp)
   rw [if_pos c18] at H
   have c18b0 : decide ((ji16) < (l0_0.length : Int)) = true := decide_eq_true c18
   clear c18
   by_cases c19 : (Op.bytesLess (((rd_T71 l0_0 (ji16)).f0).toList) (((rd_T71 l0_0 x9_1).f0).toList)) = true
   rotate_left
   ·rw [if_neg c19] at H
    have c19b0 : (Op.bytesLess (((rd_T71 l0_0 (ji16)).f0).toList) (((rd_T71 l0_0 x9_1).f0).toList)) = false := by simpa using c19
    clear c19
    have H' := a_ H
    clear H
    have p102 : 0 ≤ (x9_1 : Int) := od_
    have q102 : x9_1 < (l0_0.length : Int) := od_
    obtain ⟨ad102, e102, hx102_0, hx102_1, hx102_2⟩ := at_T71 HR0_0.out x9_1 p102 q102
    cases e102
    replace hx102_0 := hc_ HB hx102_0
    replace hx102_1 := hc_ HB hx102_1
    replace hx102_2 := hc_ HB hx102_2
    replace p102 := eq_true p102
    replace q102 := eq_true q102
    go_wp2_with (first | (first | ((with_reducible refine gd_ 5 ?_); (try (refine gate_guard (by rfl) ?_; dsimp only)); refine bx_ 5 #[.string (⟨#[]⟩ : ByteArray), .string (⟨#[]⟩ : ByteArray), .int .i64 0] 71 ?_; intro gb103 hg w29 hbox hb; have BK103 := a_ (hbox); have GW103 := a_ (bs_1 hg HB GE101); have GE103 := a_ (bs_1 hg HB GE101); replace HB := hB_ (bl_1 HB GE101) hb; have NB101_103 := nB_ hg BK101; have NB103_101 := nC_ hg BK101; replace BK101 := bB_ BK101 hb; clear hb hbox hg; have hnb30 := NB103_101.out; have hnc30 := NB101_103.out; obtain ⟨hcz31_0, hcz31_1, hcz31_2, hfz31_0, hfz31_1, hfz31_2⟩ := c3_ BK103; obtain ⟨hcz32_0, hcz32_1, hcz32_2, hfz32_0, hfz32_1, hfz32_2⟩ := c3_ BK101; have p104 : 0 ≤ ((ji16) : Int) := od_; have q104 : (ji16) < (l0_0.length : Int) := od_; obtain ⟨ad104, e104, hx104_0, hx104_1, hx104_2⟩ := at_T71 HR0_0.out (ji16) p104 q104; obtain rfl : ad102 = ad104 := (by injection e104); have hn104_0 : ad102.block ≠ gb103 := Nat.ne_of_lt (Nat.lt_of_lt_of_le (by have := World.block_lt_of_cell? _ _ hx104_0; first | rwa [add_block] at this | exact this) GW103.out); have hn104_1 : ad102.block ≠ gb103 := Nat.ne_of_lt (Nat.lt_of_lt_of_le (by have := World.block_lt_of_cell? _ _ hx104_0; first | rwa [add_block] at this | exact this) GW103.out); have hn104_2 : ad102.block ≠ gb103 := Nat.ne_of_lt (Nat.lt_of_lt_of_le (by have := World.block_lt_of_cell? _ _ hx104_0; first | rwa [add_block] at this | exact this) GW103.out); replace hx104_0 := (HB.out.cell (World.block_lt_of_cell? w _ hx104_0)).trans hx104_0; replace hx104_1 := (HB.out.cell (World.block_lt_of_cell? w _ hx104_1)).trans hx104_1; replace hx104_2 := (HB.out.cell (World.block_lt_of_cell? w _ hx104_2)).trans hx104_2; replace hx104_0 := (cf_ (p := ⟨gb103, 0, none⟩) hn104_0 (.string ((rd_T71 l0_0 x9_1).f0))).trans hx104_0; replace hx104_1 := (cf_ (p := ⟨gb103, 0, none⟩) hn104_0 (.string ((rd_T71 l0_0 x9_1).f0))).trans hx104_1; replace hx104_2 := (cf_ (p := ⟨gb103, 0, none⟩) hn104_0 (.string ((rd_T71 l0_0 x9_1).f0))).trans hx104_2; replace hx104_0 := (cf_ (p := ⟨gb103, 1, none⟩) hn104_1 (.string ((rd_T71 l0_0 x9_1).f1))).trans hx104_0; replace hx104_1 := (cf_ (p := ⟨gb103, 1, none⟩) hn104_1 (.string ((rd_T71 l0_0 x9_1).f1))).trans hx104_1; replace hx104_2 := (cf_ (p := ⟨gb103, 1, none⟩) hn104_1 (.string ((rd_T71 l0_0 x9_1).f1))).trans hx104_2; replace hx104_0 := (cf_ (p := ⟨gb103, 2, none⟩) hn104_2 (.int .i64 ((rd_T71 l0_0 x9_1).f2))).trans hx104_0; replace hx104_1 := (cf_ (p := ⟨gb103, 2, none⟩) hn104_2 (.int .i64 ((rd_T71 l0_0 x9_1).f2))).trans hx104_1; replace hx104_2 := (cf_ (p := ⟨gb103, 2, none⟩) hn104_2 (.int .i64 ((rd_T71 l0_0 x9_1).f2))).trans hx104_2; (try have hy104_0 := fun (n_ : Nat) => (show (((((w29.drewN n_).setCell ⟨gb103, 0, none⟩ (.string ((rd_T71 l0_0 x9_1).f0))).setCell ⟨gb103, 1, none⟩ (.string ((rd_T71 l0_0 x9_1).f1))).setCell ⟨gb103, 2, none⟩ (.int .i64 ((rd_T71 l0_0 x9_1).f2)))).cell? _ = some _ from hx104_0)); (try have hy104_1 := fun (n_ : Nat) => (show (((((w29.drewN n_).setCell ⟨gb103, 0, none⟩ (.string ((rd_T71 l0_0 x9_1).f0))).setCell ⟨gb103, 1, none⟩ (.string ((rd_T71 l0_0 x9_1).f1))).setCell ⟨gb103, 2, none⟩ (.int .i64 ((rd_T71 l0_0 x9_1).f2)))).cell? _ = some _ from hx104_1)); (try have hy104_2 := fun (n_ : Nat) => (show (((((w29.drewN n_).setCell ⟨gb103, 0, none⟩ (.string ((rd_T71 l0_0 x9_1).f0))).setCell ⟨gb103, 1, none⟩ (.string ((rd_T71 l0_0 x9_1).f1))).setCell ⟨gb103, 2, none⟩ (.int .i64 ((rd_T71 l0_0 x9_1).f2)))).cell? _ = some _ from hx104_2)); clear hn104_0; clear hn104_1; clear hn104_2; replace p104 := eq_true p104; replace q104 := eq_true q104)) | go_quiet (first | ((with_reducible refine gd_ 5 ?_); (try (refine gate_guard (by rfl) ?_; dsimp only)); refine bx_ 5 #[.string (⟨#[]⟩ : ByteArray), .string (⟨#[]⟩ : ByteArray), .int .i64 0] 71 ?_; intro gb103 hg w29 hbox hb; have BK103 := a_ (hbox); have GW103 := a_ (bs_1 hg HB GE101); have GE103 := a_ (bs_1 hg HB GE101); replace HB := hB_ (bl_1 HB GE101) hb; have NB101_103 := nB_ hg BK101; have NB103_101 := nC_ hg BK101; replace BK101 := bB_ BK101 hb; clear hb hbox hg; have hnb30 := NB103_101.out; have hnc30 := NB101_103.out; obtain ⟨hcz31_0, hcz31_1, hcz31_2, hfz31_0, hfz31_1, hfz31_2⟩ := c3_ BK103; obtain ⟨hcz32_0, hcz32_1, hcz32_2, hfz32_0, hfz32_1, hfz32_2⟩ := c3_ BK101; have p104 : 0 ≤ ((ji16) : Int) := od_; have q104 : (ji16) < (l0_0.length : Int) := od_; obtain ⟨ad104, e104, hx104_0, hx104_1, hx104_2⟩ := at_T71 HR0_0.out (ji16) p104 q104; obtain rfl : ad102 = ad104 := (by injection e104); have hn104_0 : ad102.block ≠ gb103 := Nat.ne_of_lt (Nat.lt_of_lt_of_le (by have := World.block_lt_of_cell? _ _ hx104_0; first | rwa [add_block] at this | exact this) GW103.out); have hn104_1 : ad102.block ≠ gb103 := Nat.ne_of_lt (Nat.lt_of_lt_of_le (by have := World.block_lt_of_cell? _ _ hx104_0; first | rwa [add_block] at this | exact this) GW103.out); have hn104_2 : ad102.block ≠ gb103 := Nat.ne_of_lt (Nat.lt_of_lt_of_le (by have := World.block_lt_of_cell? _ _ hx104_0; first | rwa [add_block] at this | exact this) GW103.out); replace hx104_0 := (HB.out.cell (World.block_lt_of_cell? w _ hx104_0)).trans hx104_0; replace hx104_1 := (HB.out.cell (World.block_lt_of_cell? w _ hx104_1)).trans hx104_1; replace hx104_2 := (HB.out.cell (World.block_lt_of_cell? w _ hx104_2)).trans hx104_2; replace hx104_0 := (cf_ (p := ⟨gb103, 0, none⟩) hn104_0 (.string ((rd_T71 l0_0 x9_1).f0))).trans hx104_0; replace hx104_1 := (cf_ (p := ⟨gb103, 0, none⟩) hn104_0 (.string ((rd_T71 l0_0 x9_1).f0))).trans hx104_1; replace hx104_2 := (cf_ (p := ⟨gb103, 0, none⟩) hn104_0 (.string ((rd_T71 l0_0 x9_1).f0))).trans hx104_2; replace hx104_0 := (cf_ (p := ⟨gb103, 1, none⟩) hn104_1 (.string ((rd_T71 l0_0 x9_1).f1))).trans hx104_0; replace hx104_1 := (cf_ (p := ⟨gb103, 1, none⟩) hn104_1 (.string ((rd_T71 l0_0 x9_1).f1))).trans hx104_1; replace hx104_2 := (cf_ (p := ⟨gb103, 1, none⟩) hn104_1 (.string ((rd_T71 l0_0 x9_1).f1))).trans hx104_2; replace hx104_0 := (cf_ (p := ⟨gb103, 2, none⟩) hn104_2 (.int .i64 ((rd_T71 l0_0 x9_1).f2))).trans hx104_0; replace hx104_1 := (cf_ (p := ⟨gb103, 2, none⟩) hn104_2 (.int .i64 ((rd_T71 l0_0 x9_1).f2))).trans hx104_1; replace hx104_2 := (cf_ (p := ⟨gb103, 2, none⟩) hn104_2 (.int .i64 ((rd_T71 l0_0 x9_1).f2))).trans hx104_2; (try have hy104_0 := fun (n_ : Nat) => (show (((((w29.drewN n_).setCell ⟨gb103, 0, none⟩ (.string ((rd_T71 l0_0 x9_1).f0))).setCell ⟨gb103, 1, none⟩ (.string ((rd_T71 l0_0 x9_1).f1))).setCell ⟨gb103, 2, none⟩ (.int .i64 ((rd_T71 l0_0 x9_1).f2)))).cell? _ = some _ from hx104_0)); (try have hy104_1 := fun (n_ : Nat) => (show (((((w29.drewN n_).setCell ⟨gb103, 0, none⟩ (.string ((rd_T71 l0_0 x9_1).f0))).setCell ⟨gb103, 1, none⟩ (.string ((rd_T71 l0_0 x9_1).f1))).setCell ⟨gb103, 2, none⟩ (.int .i64 ((rd_T71 l0_0 x9_1).f2)))).cell? _ = some _ from hx104_1)); (try have hy104_2 := fun (n_ : Nat) => (show (((((w29.drewN n_).setCell ⟨gb103, 0, none⟩ (.string ((rd_T71 l0_0 x9_1).f0))).setCell ⟨gb103, 1, none⟩ (.string ((rd_T71 l0_0 x9_1).f1))).setCell ⟨gb103, 2, none⟩ (.int .i64 ((rd_T71 l0_0 x9_1).f2)))).cell? _ = some _ from hx104_2)); clear hn104_0; clear hn104_1; clear hn104_2; replace p104 := eq_true p104; replace q104 := eq_true q104)))
    go_roundg k1
    case measure => have := HK1.out; omega
    case rel => exact ⟨(false), (wrap64 (x9_1 + 1)), fz_, fz_, H', ⟨by have := HK1.out; omega⟩, ⟨by refine bq_ ?_; refine blk_far ?_ NB101_103.out _; refine bq_ ?_; refine blk_far ?_ NB101_103.out _; refine bq_ ?_; refine blk_far ?_ NB101_103.out _; refine bq_ ?_; exact BK101.out⟩, ⟨bl_2 HB GE101 GE103⟩⟩
   rw [if_pos c19] at H
   have c19b0 : (Op.bytesLess (((rd_T71 l0_0 (ji16)).f0).toList) (((rd_T71 l0_0 x9_1).f0).toList)) = true := c19
   clear c19
   by_cases c20 : ((rd_T71 l0_0 x9_1).f2) ≥ 0
   rotate_left
   ·rw [if_neg c20] at H
    have c20b0 : decide (0 ≤ ((rd_T71 l0_0 x9_1).f2)) = false := decide_eq_false c20
    clear c20
    have H' := a_ H
    clear H
    have p102 : 0 ≤ (x9_1 : Int) := od_
    have q102 : x9_1 < (l0_0.length : Int) := od_
    obtain ⟨ad102, e102, hx102_0, hx102_1, hx102_2⟩ := at_T71 HR0_0.out x9_1 p102 q102
    cases e102
    replace hx102_0 := hc_ HB hx102_0
    replace hx102_1 := hc_ HB hx102_1
    replace hx102_2 := hc_ HB hx102_2
    replace p102 := eq_true p102
    replace q102 := eq_true q102
    go_wp2_with (first | (first | ((with_reducible refine gd_ 5 ?_); (try (refine gate_guard (by rfl) ?_; dsimp only)); refine bx_ 5 #[.string (⟨#[]⟩ : ByteArray), .string (⟨#[]⟩ : ByteArray), .int .i64 0] 71 ?_; intro gb103 hg w25 hbox hb; have BK103 := a_ (hbox); have GW103 := a_ (bs_1 hg HB GE101); have GE103 := a_ (bs_1 hg HB GE101); replace HB := hB_ (bl_1 HB GE101) hb; have NB101_103 := nB_ hg BK101; have NB103_101 := nC_ hg BK101; replace BK101 := bB_ BK101 hb; clear hb hbox hg; have hnb26 := NB103_101.out; have hnc26 := NB101_103.out; obtain ⟨hcz27_0, hcz27_1, hcz27_2, hfz27_0, hfz27_1, hfz27_2⟩ := c3_ BK103; obtain ⟨hcz28_0, hcz28_1, hcz28_2, hfz28_0, hfz28_1, hfz28_2⟩ := c3_ BK101; have p104 : 0 ≤ ((ji16) : Int) := od_; have q104 : (ji16) < (l0_0.length : Int) := od_; obtain ⟨ad104, e104, hx104_0, hx104_1, hx104_2⟩ := at_T71 HR0_0.out (ji16) p104 q104; obtain rfl : ad102 = ad104 := (by injection e104); have hn104_0 : ad102.block ≠ gb103 := Nat.ne_of_lt (Nat.lt_of_lt_of_le (by have := World.block_lt_of_cell? _ _ hx104_0; first | rwa [add_block] at this | exact this) GW103.out); have hn104_1 : ad102.block ≠ gb103 := Nat.ne_of_lt (Nat.lt_of_lt_of_le (by have := World.block_lt_of_cell? _ _ hx104_0; first | rwa [add_block] at this | exact this) GW103.out); have hn104_2 : ad102.block ≠ gb103 := Nat.ne_of_lt (Nat.lt_of_lt_of_le (by have := World.block_lt_of_cell? _ _ hx104_0; first | rwa [add_block] at this | exact this) GW103.out); replace hx104_0 := (HB.out.cell (World.block_lt_of_cell? w _ hx104_0)).trans hx104_0; replace hx104_1 := (HB.out.cell (World.block_lt_of_cell? w _ hx104_1)).trans hx104_1; replace hx104_2 := (HB.out.cell (World.block_lt_of_cell? w _ hx104_2)).trans hx104_2; replace hx104_0 := (cf_ (p := ⟨gb103, 0, none⟩) hn104_0 (.string ((rd_T71 l0_0 x9_1).f0))).trans hx104_0; replace hx104_1 := (cf_ (p := ⟨gb103, 0, none⟩) hn104_0 (.string ((rd_T71 l0_0 x9_1).f0))).trans hx104_1; replace hx104_2 := (cf_ (p := ⟨gb103, 0, none⟩) hn104_0 (.string ((rd_T71 l0_0 x9_1).f0))).trans hx104_2; replace hx104_0 := (cf_ (p := ⟨gb103, 1, none⟩) hn104_1 (.string ((rd_T71 l0_0 x9_1).f1))).trans hx104_0; replace hx104_1 := (cf_ (p := ⟨gb103, 1, none⟩) hn104_1 (.string ((rd_T71 l0_0 x9_1).f1))).trans hx104_1; replace hx104_2 := (cf_ (p := ⟨gb103, 1, none⟩) hn104_1 (.string ((rd_T71 l0_0 x9_1).f1))).trans hx104_2; replace hx104_0 := (cf_ (p := ⟨gb103, 2, none⟩) hn104_2 (.int .i64 ((rd_T71 l0_0 x9_1).f2))).trans hx104_0; replace hx104_1 := (cf_ (p := ⟨gb103, 2, none⟩) hn104_2 (.int .i64 ((rd_T71 l0_0 x9_1).f2))).trans hx104_1; replace hx104_2 := (cf_ (p := ⟨gb103, 2, none⟩) hn104_2 (.int .i64 ((rd_T71 l0_0 x9_1).f2))).trans hx104_2; (try have hy104_0 := fun (n_ : Nat) => (show (((((w25.drewN n_).setCell ⟨gb103, 0, none⟩ (.string ((rd_T71 l0_0 x9_1).f0))).setCell ⟨gb103, 1, none⟩ (.string ((rd_T71 l0_0 x9_1).f1))).setCell ⟨gb103, 2, none⟩ (.int .i64 ((rd_T71 l0_0 x9_1).f2)))).cell? _ = some _ from hx104_0)); (try have hy104_1 := fun (n_ : Nat) => (show (((((w25.drewN n_).setCell ⟨gb103, 0, none⟩ (.string ((rd_T71 l0_0 x9_1).f0))).setCell ⟨gb103, 1, none⟩ (.string ((rd_T71 l0_0 x9_1).f1))).setCell ⟨gb103, 2, none⟩ (.int .i64 ((rd_T71 l0_0 x9_1).f2)))).cell? _ = some _ from hx104_1)); (try have hy104_2 := fun (n_ : Nat) => (show (((((w25.drewN n_).setCell ⟨gb103, 0, none⟩ (.string ((rd_T71 l0_0 x9_1).f0))).setCell ⟨gb103, 1, none⟩ (.string ((rd_T71 l0_0 x9_1).f1))).setCell ⟨gb103, 2, none⟩ (.int .i64 ((rd_T71 l0_0 x9_1).f2)))).cell? _ = some _ from hx104_2)); clear hn104_0; clear hn104_1; clear hn104_2; replace p104 := eq_true p104; replace q104 := eq_true q104)) | go_quiet (first | ((with_reducible refine gd_ 5 ?_); (try (refine gate_guard (by rfl) ?_; dsimp only)); refine bx_ 5 #[.string (⟨#[]⟩ : ByteArray), .string (⟨#[]⟩ : ByteArray), .int .i64 0] 71 ?_; intro gb103 hg w25 hbox hb; have BK103 := a_ (hbox); have GW103 := a_ (bs_1 hg HB GE101); have GE103 := a_ (bs_1 hg HB GE101); replace HB := hB_ (bl_1 HB GE101) hb; have NB101_103 := nB_ hg BK101; have NB103_101 := nC_ hg BK101; replace BK101 := bB_ BK101 hb; clear hb hbox hg; have hnb26 := NB103_101.out; have hnc26 := NB101_103.out; obtain ⟨hcz27_0, hcz27_1, hcz27_2, hfz27_0, hfz27_1, hfz27_2⟩ := c3_ BK103; obtain ⟨hcz28_0, hcz28_1, hcz28_2, hfz28_0, hfz28_1, hfz28_2⟩ := c3_ BK101; have p104 : 0 ≤ ((ji16) : Int) := od_; have q104 : (ji16) < (l0_0.length : Int) := od_; obtain ⟨ad104, e104, hx104_0, hx104_1, hx104_2⟩ := at_T71 HR0_0.out (ji16) p104 q104; obtain rfl : ad102 = ad104 := (by injection e104); have hn104_0 : ad102.block ≠ gb103 := Nat.ne_of_lt (Nat.lt_of_lt_of_le (by have := World.block_lt_of_cell? _ _ hx104_0; first | rwa [add_block] at this | exact this) GW103.out); have hn104_1 : ad102.block ≠ gb103 := Nat.ne_of_lt (Nat.lt_of_lt_of_le (by have := World.block_lt_of_cell? _ _ hx104_0; first | rwa [add_block] at this | exact this) GW103.out); have hn104_2 : ad102.block ≠ gb103 := Nat.ne_of_lt (Nat.lt_of_lt_of_le (by have := World.block_lt_of_cell? _ _ hx104_0; first | rwa [add_block] at this | exact this) GW103.out); replace hx104_0 := (HB.out.cell (World.block_lt_of_cell? w _ hx104_0)).trans hx104_0; replace hx104_1 := (HB.out.cell (World.block_lt_of_cell? w _ hx104_1)).trans hx104_1; replace hx104_2 := (HB.out.cell (World.block_lt_of_cell? w _ hx104_2)).trans hx104_2; replace hx104_0 := (cf_ (p := ⟨gb103, 0, none⟩) hn104_0 (.string ((rd_T71 l0_0 x9_1).f0))).trans hx104_0; replace hx104_1 := (cf_ (p := ⟨gb103, 0, none⟩) hn104_0 (.string ((rd_T71 l0_0 x9_1).f0))).trans hx104_1; replace hx104_2 := (cf_ (p := ⟨gb103, 0, none⟩) hn104_0 (.string ((rd_T71 l0_0 x9_1).f0))).trans hx104_2; replace hx104_0 := (cf_ (p := ⟨gb103, 1, none⟩) hn104_1 (.string ((rd_T71 l0_0 x9_1).f1))).trans hx104_0; replace hx104_1 := (cf_ (p := ⟨gb103, 1, none⟩) hn104_1 (.string ((rd_T71 l0_0 x9_1).f1))).trans hx104_1; replace hx104_2 := (cf_ (p := ⟨gb103, 1, none⟩) hn104_1 (.string ((rd_T71 l0_0 x9_1).f1))).trans hx104_2; replace hx104_0 := (cf_ (p := ⟨gb103, 2, none⟩) hn104_2 (.int .i64 ((rd_T71 l0_0 x9_1).f2))).trans hx104_0; replace hx104_1 := (cf_ (p := ⟨gb103, 2, none⟩) hn104_2 (.int .i64 ((rd_T71 l0_0 x9_1).f2))).trans hx104_1; replace hx104_2 := (cf_ (p := ⟨gb103, 2, none⟩) hn104_2 (.int .i64 ((rd_T71 l0_0 x9_1).f2))).trans hx104_2; (try have hy104_0 := fun (n_ : Nat) => (show (((((w25.drewN n_).setCell ⟨gb103, 0, none⟩ (.string ((rd_T71 l0_0 x9_1).f0))).setCell ⟨gb103, 1, none⟩ (.string ((rd_T71 l0_0 x9_1).f1))).setCell ⟨gb103, 2, none⟩ (.int .i64 ((rd_T71 l0_0 x9_1).f2)))).cell? _ = some _ from hx104_0)); (try have hy104_1 := fun (n_ : Nat) => (show (((((w25.drewN n_).setCell ⟨gb103, 0, none⟩ (.string ((rd_T71 l0_0 x9_1).f0))).setCell ⟨gb103, 1, none⟩ (.string ((rd_T71 l0_0 x9_1).f1))).setCell ⟨gb103, 2, none⟩ (.int .i64 ((rd_T71 l0_0 x9_1).f2)))).cell? _ = some _ from hx104_1)); (try have hy104_2 := fun (n_ : Nat) => (show (((((w25.drewN n_).setCell ⟨gb103, 0, none⟩ (.string ((rd_T71 l0_0 x9_1).f0))).setCell ⟨gb103, 1, none⟩ (.string ((rd_T71 l0_0 x9_1).f1))).setCell ⟨gb103, 2, none⟩ (.int .i64 ((rd_T71 l0_0 x9_1).f2)))).cell? _ = some _ from hx104_2)); clear hn104_0; clear hn104_1; clear hn104_2; replace p104 := eq_true p104; replace q104 := eq_true q104)))
    go_roundg k1
    case measure => have := HK1.out; omega
    case rel => exact ⟨(false), (wrap64 (x9_1 + 1)), fz_, fz_, H', ⟨by have := HK1.out; omega⟩, ⟨by refine bq_ ?_; refine blk_far ?_ NB101_103.out _; refine bq_ ?_; refine blk_far ?_ NB101_103.out _; refine bq_ ?_; refine blk_far ?_ NB101_103.out _; refine bq_ ?_; exact BK101.out⟩, ⟨bl_2 HB GE101 GE103⟩⟩
   rw [if_pos c20] at H
   have c20b0 : decide (0 ≤ ((rd_T71 l0_0 x9_1).f2)) = true := decide_eq_true c20
   clear c20
   have H' := a_ H
   clear H
   have p102 : 0 ≤ (x9_1 : Int) := od_
   have q102 : x9_1 < (l0_0.length : Int) := od_
   obtain ⟨ad102, e102, hx102_0, hx102_1, hx102_2⟩ := at_T71 HR0_0.out x9_1 p102 q102
   cases e102
   replace hx102_0 := hc_ HB hx102_0
   replace hx102_1 := hc_ HB hx102_1
   replace hx102_2 := hc_ HB hx102_2
   replace p102 := eq_true p102
   replace q102 := eq_true q102
   go_wp2_with (first | (first | ((with_reducible refine gd_ 5 ?_); (try (refine gate_guard (by rfl) ?_; dsimp only)); refine bx_ 5 #[.string (⟨#[]⟩ : ByteArray), .string (⟨#[]⟩ : ByteArray), .int .i64 0] 71 ?_; intro gb103 hg w21 hbox hb; have BK103 := a_ (hbox); have GW103 := a_ (bs_1 hg HB GE101); have GE103 := a_ (bs_1 hg HB GE101); replace HB := hB_ (bl_1 HB GE101) hb; have NB101_103 := nB_ hg BK101; have NB103_101 := nC_ hg BK101; replace BK101 := bB_ BK101 hb; clear hb hbox hg; have hnb22 := NB103_101.out; have hnc22 := NB101_103.out; obtain ⟨hcz23_0, hcz23_1, hcz23_2, hfz23_0, hfz23_1, hfz23_2⟩ := c3_ BK103; obtain ⟨hcz24_0, hcz24_1, hcz24_2, hfz24_0, hfz24_1, hfz24_2⟩ := c3_ BK101; have p104 : 0 ≤ ((ji16) : Int) := od_; have q104 : (ji16) < (l0_0.length : Int) := od_; obtain ⟨ad104, e104, hx104_0, hx104_1, hx104_2⟩ := at_T71 HR0_0.out (ji16) p104 q104; obtain rfl : ad102 = ad104 := (by injection e104); have hn104_0 : ad102.block ≠ gb103 := Nat.ne_of_lt (Nat.lt_of_lt_of_le (by have := World.block_lt_of_cell? _ _ hx104_0; first | rwa [add_block] at this | exact this) GW103.out); have hn104_1 : ad102.block ≠ gb103 := Nat.ne_of_lt (Nat.lt_of_lt_of_le (by have := World.block_lt_of_cell? _ _ hx104_0; first | rwa [add_block] at this | exact this) GW103.out); have hn104_2 : ad102.block ≠ gb103 := Nat.ne_of_lt (Nat.lt_of_lt_of_le (by have := World.block_lt_of_cell? _ _ hx104_0; first | rwa [add_block] at this | exact this) GW103.out); replace hx104_0 := (HB.out.cell (World.block_lt_of_cell? w _ hx104_0)).trans hx104_0; replace hx104_1 := (HB.out.cell (World.block_lt_of_cell? w _ hx104_1)).trans hx104_1; replace hx104_2 := (HB.out.cell (World.block_lt_of_cell? w _ hx104_2)).trans hx104_2; replace hx104_0 := (cf_ (p := ⟨gb103, 0, none⟩) hn104_0 (.string ((rd_T71 l0_0 x9_1).f0))).trans hx104_0; replace hx104_1 := (cf_ (p := ⟨gb103, 0, none⟩) hn104_0 (.string ((rd_T71 l0_0 x9_1).f0))).trans hx104_1; replace hx104_2 := (cf_ (p := ⟨gb103, 0, none⟩) hn104_0 (.string ((rd_T71 l0_0 x9_1).f0))).trans hx104_2; replace hx104_0 := (cf_ (p := ⟨gb103, 1, none⟩) hn104_1 (.string ((rd_T71 l0_0 x9_1).f1))).trans hx104_0; replace hx104_1 := (cf_ (p := ⟨gb103, 1, none⟩) hn104_1 (.string ((rd_T71 l0_0 x9_1).f1))).trans hx104_1; replace hx104_2 := (cf_ (p := ⟨gb103, 1, none⟩) hn104_1 (.string ((rd_T71 l0_0 x9_1).f1))).trans hx104_2; replace hx104_0 := (cf_ (p := ⟨gb103, 2, none⟩) hn104_2 (.int .i64 ((rd_T71 l0_0 x9_1).f2))).trans hx104_0; replace hx104_1 := (cf_ (p := ⟨gb103, 2, none⟩) hn104_2 (.int .i64 ((rd_T71 l0_0 x9_1).f2))).trans hx104_1; replace hx104_2 := (cf_ (p := ⟨gb103, 2, none⟩) hn104_2 (.int .i64 ((rd_T71 l0_0 x9_1).f2))).trans hx104_2; (try have hy104_0 := fun (n_ : Nat) => (show (((((w21.drewN n_).setCell ⟨gb103, 0, none⟩ (.string ((rd_T71 l0_0 x9_1).f0))).setCell ⟨gb103, 1, none⟩ (.string ((rd_T71 l0_0 x9_1).f1))).setCell ⟨gb103, 2, none⟩ (.int .i64 ((rd_T71 l0_0 x9_1).f2)))).cell? _ = some _ from hx104_0)); (try have hy104_1 := fun (n_ : Nat) => (show (((((w21.drewN n_).setCell ⟨gb103, 0, none⟩ (.string ((rd_T71 l0_0 x9_1).f0))).setCell ⟨gb103, 1, none⟩ (.string ((rd_T71 l0_0 x9_1).f1))).setCell ⟨gb103, 2, none⟩ (.int .i64 ((rd_T71 l0_0 x9_1).f2)))).cell? _ = some _ from hx104_1)); (try have hy104_2 := fun (n_ : Nat) => (show (((((w21.drewN n_).setCell ⟨gb103, 0, none⟩ (.string ((rd_T71 l0_0 x9_1).f0))).setCell ⟨gb103, 1, none⟩ (.string ((rd_T71 l0_0 x9_1).f1))).setCell ⟨gb103, 2, none⟩ (.int .i64 ((rd_T71 l0_0 x9_1).f2)))).cell? _ = some _ from hx104_2)); clear hn104_0; clear hn104_1; clear hn104_2; replace p104 := eq_true p104; replace q104 := eq_true q104)) | go_quiet (first | ((with_reducible refine gd_ 5 ?_); (try (refine gate_guard (by rfl) ?_; dsimp only)); refine bx_ 5 #[.string (⟨#[]⟩ : ByteArray), .string (⟨#[]⟩ : ByteArray), .int .i64 0] 71 ?_; intro gb103 hg w21 hbox hb; have BK103 := a_ (hbox); have GW103 := a_ (bs_1 hg HB GE101); have GE103 := a_ (bs_1 hg HB GE101); replace HB := hB_ (bl_1 HB GE101) hb; have NB101_103 := nB_ hg BK101; have NB103_101 := nC_ hg BK101; replace BK101 := bB_ BK101 hb; clear hb hbox hg; have hnb22 := NB103_101.out; have hnc22 := NB101_103.out; obtain ⟨hcz23_0, hcz23_1, hcz23_2, hfz23_0, hfz23_1, hfz23_2⟩ := c3_ BK103; obtain ⟨hcz24_0, hcz24_1, hcz24_2, hfz24_0, hfz24_1, hfz24_2⟩ := c3_ BK101; have p104 : 0 ≤ ((ji16) : Int) := od_; have q104 : (ji16) < (l0_0.length : Int) := od_; obtain ⟨ad104, e104, hx104_0, hx104_1, hx104_2⟩ := at_T71 HR0_0.out (ji16) p104 q104; obtain rfl : ad102 = ad104 := (by injection e104); have hn104_0 : ad102.block ≠ gb103 := Nat.ne_of_lt (Nat.lt_of_lt_of_le (by have := World.block_lt_of_cell? _ _ hx104_0; first | rwa [add_block] at this | exact this) GW103.out); have hn104_1 : ad102.block ≠ gb103 := Nat.ne_of_lt (Nat.lt_of_lt_of_le (by have := World.block_lt_of_cell? _ _ hx104_0; first | rwa [add_block] at this | exact this) GW103.out); have hn104_2 : ad102.block ≠ gb103 := Nat.ne_of_lt (Nat.lt_of_lt_of_le (by have := World.block_lt_of_cell? _ _ hx104_0; first | rwa [add_block] at this | exact this) GW103.out); replace hx104_0 := (HB.out.cell (World.block_lt_of_cell? w _ hx104_0)).trans hx104_0; replace hx104_1 := (HB.out.cell (World.block_lt_of_cell? w _ hx104_1)).trans hx104_1; replace hx104_2 := (HB.out.cell (World.block_lt_of_cell? w _ hx104_2)).trans hx104_2; replace hx104_0 := (cf_ (p := ⟨gb103, 0, none⟩) hn104_0 (.string ((rd_T71 l0_0 x9_1).f0))).trans hx104_0; replace hx104_1 := (cf_ (p := ⟨gb103, 0, none⟩) hn104_0 (.string ((rd_T71 l0_0 x9_1).f0))).trans hx104_1; replace hx104_2 := (cf_ (p := ⟨gb103, 0, none⟩) hn104_0 (.string ((rd_T71 l0_0 x9_1).f0))).trans hx104_2; replace hx104_0 := (cf_ (p := ⟨gb103, 1, none⟩) hn104_1 (.string ((rd_T71 l0_0 x9_1).f1))).trans hx104_0; replace hx104_1 := (cf_ (p := ⟨gb103, 1, none⟩) hn104_1 (.string ((rd_T71 l0_0 x9_1).f1))).trans hx104_1; replace hx104_2 := (cf_ (p := ⟨gb103, 1, none⟩) hn104_1 (.string ((rd_T71 l0_0 x9_1).f1))).trans hx104_2; replace hx104_0 := (cf_ (p := ⟨gb103, 2, none⟩) hn104_2 (.int .i64 ((rd_T71 l0_0 x9_1).f2))).trans hx104_0; replace hx104_1 := (cf_ (p := ⟨gb103, 2, none⟩) hn104_2 (.int .i64 ((rd_T71 l0_0 x9_1).f2))).trans hx104_1; replace hx104_2 := (cf_ (p := ⟨gb103, 2, none⟩) hn104_2 (.int .i64 ((rd_T71 l0_0 x9_1).f2))).trans hx104_2; (try have hy104_0 := fun (n_ : Nat) => (show (((((w21.drewN n_).setCell ⟨gb103, 0, none⟩ (.string ((rd_T71 l0_0 x9_1).f0))).setCell ⟨gb103, 1, none⟩ (.string ((rd_T71 l0_0 x9_1).f1))).setCell ⟨gb103, 2, none⟩ (.int .i64 ((rd_T71 l0_0 x9_1).f2)))).cell? _ = some _ from hx104_0)); (try have hy104_1 := fun (n_ : Nat) => (show (((((w21.drewN n_).setCell ⟨gb103, 0, none⟩ (.string ((rd_T71 l0_0 x9_1).f0))).setCell ⟨gb103, 1, none⟩ (.string ((rd_T71 l0_0 x9_1).f1))).setCell ⟨gb103, 2, none⟩ (.int .i64 ((rd_T71 l0_0 x9_1).f2)))).cell? _ = some _ from hx104_1)); (try have hy104_2 := fun (n_ : Nat) => (show (((((w21.drewN n_).setCell ⟨gb103, 0, none⟩ (.string ((rd_T71 l0_0 x9_1).f0))).setCell ⟨gb103, 1, none⟩ (.string ((rd_T71 l0_0 x9_1).f1))).setCell ⟨gb103, 2, none⟩ (.int .i64 ((rd_T71 l0_0 x9_1).f2)))).cell? _ = some _ from hx104_2)); clear hn104_0; clear hn104_1; clear hn104_2; replace p104 := eq_true p104; replace q104 := eq_true q104)))
   go_roundg k1
   case measure => have := HK1.out; omega
   case rel => exact ⟨(decide (((rd_T71 l0_0 x9_1).f2) ≤ (((rd_T71 l0_0 x9_1).f1).size : Int))), (wrap64 (x9_1 + 1)), fz_, fz_, H', ⟨by have := HK1.out; omega⟩, ⟨by refine bq_ ?_; refine blk_far ?_ NB101_103.out _; refine bq_ ?_; refine blk_far ?_ NB101_103.out _; refine bq_ ?_; refine blk_far ?_ NB101_103.out _; refine bq_ ?_; exact BK101.out⟩, ⟨bl_2 HB GE101 GE103⟩⟩
/-! ### disk_asked: function 49 -/
def disk_asked.f (k : Nat) (l0_0 : List (S71)) (a0_1 : Bool) (a0_2 : Int) : Option (Int) := (disk_Check.f k l0_0 a0_1 a0_2).bind fun t106 => (if t106 = 0 then (if a0_1 = true then (some 8) else (some 0)) else (some t106))
theorem disk_asked.mono : ∀ a0 a1 a2 k, LeO (disk_asked.f k a0 a1 a2) (disk_asked.f (k + 1) a0 a1 a2) := by
 intro a0 a1 a2 k
 unfold disk_asked.f
 repeat' with_reducible first | exact disk_Check.mono _ _ _ _ | exact LeO.refl _ | exact LeO.none _ | refine LeO.ite ?_ ?_ | refine LeO.bind ?_ (fun _ => ?_)
theorem disk_asked.calls (k : Nat) (A0_0 : Option Addr) (c0_0 : Nat) (l0_0 : List (S71)) (a0_1 : Bool) (a0_2 : Int) (r : Int) (w : World) (hr0_0 : Kd.C k71 w A0_0 l0_0.length l0_0) (hc0_0 : l0_0.length ≤ c0_0) (h : disk_asked.f k l0_0 a0_1 a0_2 = some r) :
  Calls Try.prog 49 #[.agg #[.slice A0_0 l0_0.length c0_0, .bool a0_1, .int .i64 a0_2]] w fun e w' => e = .returned (.int .i64 r) ∧ Below w.heap.size w w' := by
 have hu24 := Try.underlying24
 have HR0_0 := a_ hr0_0
 have HC0_0 := a_ hc0_0
 clear hr0_0 hc0_0
 have HB := a_ (Below.refl w.heap.size w)
 have H : ((disk_Check.f k l0_0 a0_1 a0_2).bind fun t106 => (if t106 = 0 then (if a0_1 = true then (some 8) else (some 0)) else (some t106))) = some r := h
 clear h
 obtain ⟨t106, A20, H⟩ := Option.bind_eq_some_iff.mp H
 try dsimp only at H
 have A2 := a_ A20
 clear A20
 by_cases c3 : t106 = 0
 rotate_left
 ·rw [if_neg c3] at H
  have c3b0 : (t106 == 0) = false := beq_eq_false_iff_ne.mpr c3
  have c3b1 : (t106 != 0) = true := bne_iff_ne.mpr c3
  obtain rfl := Option.some.inj H
  go_enter Try.func49, Try.ntmps49
  go_wp2_with (first | ((with_reducible refine gd_ 1 ?_); refine bx_ 1 #[.slice A0_0 l0_0.length c0_0, .bool a0_1, .int .i64 a0_2] 24 ?_; intro gb105 hg w13 hbox hb; have BK105 := a_ (hbox); have GE105 := a_ (bs_0 hg HB); replace HB := hB_ (bl_ HB) hb; clear hb hbox hg; obtain ⟨hcz14_0, hcz14_1, hcz14_2, hfz14_0, hfz14_1, hfz14_2⟩ := c3_ BK105) | ((with_reducible refine gk_ 37 ?_); refine gl_ (some 5) Try.func37 #[.agg #[.slice A0_0 l0_0.length c0_0, .bool a0_1, .int .i64 a0_2]] ?_; (with_reducible refine (disk_Check.calls k _ _ l0_0 a0_1 a0_2 t106 _ ?side1 ?side2 A2.out).mono ?_); (case side1 => exact cl_ (Kd.C_below HR0_0.out HB.out)); (case side2 => exact HC0_0.out); rintro e w15 ⟨rfl, hb⟩; refine ⟨_, rfl, ?_⟩; replace BK105 := bB_ BK105 hb; replace HB := hB_ (bl_1 HB GE105) hb; (try clear hb)))
  go_ret
  exact ⟨fz_, bl_1 HB GE105⟩


 rw [if_pos c3] at H
 have c3b0 : (t106 == 0) = true := beq_iff_eq.mpr c3
 have c3b1 : (t106 != 0) = false := bne_eq_false_iff_eq.mpr c3
 clear c3
 by_cases c4 : a0_1 = true
 ·subst c4
  have H1 : (some 8) = some r := by rw [if_pos rfl] at H; exact H
  clear H
  have H := H1
  clear H1
  obtain rfl := Option.some.inj H
  go_enter Try.func49, Try.ntmps49
  go_wp2_with (first | ((with_reducible refine gd_ 1 ?_); refine bx_ 1 #[.slice A0_0 l0_0.length c0_0, .bool true, .int .i64 a0_2] 24 ?_; intro gb105 hg w5 hbox hb; have BK105 := a_ (hbox); have GE105 := a_ (bs_0 hg HB); replace HB := hB_ (bl_ HB) hb; clear hb hbox hg; obtain ⟨hcz6_0, hcz6_1, hcz6_2, hfz6_0, hfz6_1, hfz6_2⟩ := c3_ BK105) | ((with_reducible refine gk_ 37 ?_); refine gl_ (some 5) Try.func37 #[.agg #[.slice A0_0 l0_0.length c0_0, .bool true, .int .i64 a0_2]] ?_; (with_reducible refine (disk_Check.calls k _ _ l0_0 true a0_2 t106 _ ?side1 ?side2 A2.out).mono ?_); (case side1 => exact cl_ (Kd.C_below HR0_0.out HB.out)); (case side2 => exact HC0_0.out); rintro e w7 ⟨rfl, hb⟩; refine ⟨_, rfl, ?_⟩; replace BK105 := bB_ BK105 hb; replace HB := hB_ (bl_1 HB GE105) hb; (try clear hb); obtain ⟨hcz8_0, hcz8_1, hcz8_2, hfz8_0, hfz8_1, hfz8_2⟩ := c3_ BK105))
  go_ret
  exact ⟨fz_, bl_1 HB GE105⟩
 replace c4 := Bool.eq_false_iff.mpr c4
 subst c4
 have H1 : (some 0) = some r := by rw [if_neg (show ¬ (false = true) by decide)] at H; exact H
 clear H
 have H := H1
 clear H1
 obtain rfl := Option.some.inj H
 go_enter Try.func49, Try.ntmps49
 go_wp2_with (first | ((with_reducible refine gd_ 1 ?_); refine bx_ 1 #[.slice A0_0 l0_0.length c0_0, .bool false, .int .i64 a0_2] 24 ?_; intro gb105 hg w9 hbox hb; have BK105 := a_ (hbox); have GE105 := a_ (bs_0 hg HB); replace HB := hB_ (bl_ HB) hb; clear hb hbox hg; obtain ⟨hcz10_0, hcz10_1, hcz10_2, hfz10_0, hfz10_1, hfz10_2⟩ := c3_ BK105) | ((with_reducible refine gk_ 37 ?_); refine gl_ (some 5) Try.func37 #[.agg #[.slice A0_0 l0_0.length c0_0, .bool false, .int .i64 a0_2]] ?_; (with_reducible refine (disk_Check.calls k _ _ l0_0 false a0_2 t106 _ ?side1 ?side2 A2.out).mono ?_); (case side1 => exact cl_ (Kd.C_below HR0_0.out HB.out)); (case side2 => exact HC0_0.out); rintro e w11 ⟨rfl, hb⟩; refine ⟨_, rfl, ?_⟩; replace BK105 := bB_ BK105 hb; replace HB := hB_ (bl_1 HB GE105) hb; (try clear hb); obtain ⟨hcz12_0, hcz12_1, hcz12_2, hfz12_0, hfz12_1, hfz12_2⟩ := c3_ BK105))
 go_ret
 exact ⟨fz_, bl_1 HB GE105⟩
/-! ### cmp_isNaN_string: function 103 -/
def cmp_isNaN_string.f (a0 : ByteArray) : Option (Bool) := some (a0.toList != a0.toList)
theorem cmp_isNaN_string.calls (a0 : ByteArray) (r : Bool) (w : World) (h : cmp_isNaN_string.f a0 = some r) :
  Calls Try.prog 103 #[.string a0] w fun e w' => e = .returned (.bool r) ∧ Drawn0 w w' := by
 have H : (some (a0.toList != a0.toList)) = some r := h
 clear h
 obtain rfl := Option.some.inj H
 go_enter Try.func103, Try.ntmps103
 go_wp2
 go_ret
 exact ⟨fz_, dr_⟩

/-! ### cmp_Compare_string: function 81 -/
def cmp_Compare_string.f (a0 : ByteArray) (a1 : ByteArray) : Option (Int) := (cmp_isNaN_string.f a0).bind fun t107 => ((cmp_isNaN_string.f a1).bind fun t108 => (if t107 = true then (if t108 = true then (some 0) else (some (-1))) else (if t108 = true then (some 1) else (if (Op.bytesLess a0.toList a1.toList) = true then (some (-1)) else (if (Op.bytesLess a1.toList a0.toList) = true then (some 1) else (some 0))))))
theorem cmp_Compare_string.calls (a0 : ByteArray) (a1 : ByteArray) (r : Int) (w : World) (h : cmp_Compare_string.f a0 a1 = some r) :
  Calls Try.prog 81 #[.string a0, .string a1] w fun e w' => e = .returned (.int .i64 r) ∧ Drawn0 w w' := by
 have H : ((cmp_isNaN_string.f a0).bind fun t107 => ((cmp_isNaN_string.f a1).bind fun t108 => (if t107 = true then (if t108 = true then (some 0) else (some (-1))) else (if t108 = true then (some 1) else (if (Op.bytesLess a0.toList a1.toList) = true then (some (-1)) else (if (Op.bytesLess a1.toList a0.toList) = true then (some 1) else (some 0))))))) = some r := h
 clear h
 obtain ⟨t107, A30, H⟩ := Option.bind_eq_some_iff.mp H
 try dsimp only at H
 have A3 := a_ A30
 clear A30
 obtain ⟨t108, A40, H⟩ := Option.bind_eq_some_iff.mp H
 try dsimp only at H
 have A4 := a_ A40
 clear A40
 by_cases c5 : t107 = true
 ·subst c5
  have H1 : (if t108 = true then (some 0) else (some (-1))) = some r := by rw [if_pos rfl] at H; exact H
  clear H
  have H := H1
  clear H1
  by_cases c6 : t108 = true
  ·subst c6
   have H1 : (some 0) = some r := by rw [if_pos rfl] at H; exact H
   clear H
   have H := H1
   clear H1
   obtain rfl := Option.some.inj H
   go_enter Try.func81, Try.ntmps81
   go_wp2_with (first | ((with_reducible refine gk_ 103 ?_); refine gl_ (some 8) Try.func103 #[.string a0] ?_; (with_reducible refine (cmp_isNaN_string.calls a0 true _ A3.out).mono ?_); rintro e w' ⟨rfl, ⟨nd, rfl⟩⟩; refine ⟨_, rfl, ?_⟩) | ((with_reducible refine gk_ 103 ?_); refine gl_ (some 10) Try.func103 #[.string a1] ?_; (with_reducible refine (cmp_isNaN_string.calls a1 true _ A4.out).mono ?_); rintro e w' ⟨rfl, ⟨nd, rfl⟩⟩; refine ⟨_, rfl, ?_⟩))
   go_ret
   exact ⟨fz_, dr_⟩
  replace c6 := Bool.eq_false_iff.mpr c6
  subst c6
  have H1 : (some (-1)) = some r := by rw [if_neg (show ¬ (false = true) by decide)] at H; exact H
  clear H
  have H := H1
  clear H1
  obtain rfl := Option.some.inj H
  go_enter Try.func81, Try.ntmps81
  go_wp2_with (first | ((with_reducible refine gk_ 103 ?_); refine gl_ (some 8) Try.func103 #[.string a0] ?_; (with_reducible refine (cmp_isNaN_string.calls a0 true _ A3.out).mono ?_); rintro e w' ⟨rfl, ⟨nd, rfl⟩⟩; refine ⟨_, rfl, ?_⟩) | ((with_reducible refine gk_ 103 ?_); refine gl_ (some 10) Try.func103 #[.string a1] ?_; (with_reducible refine (cmp_isNaN_string.calls a1 false _ A4.out).mono ?_); rintro e w' ⟨rfl, ⟨nd, rfl⟩⟩; refine ⟨_, rfl, ?_⟩))
  go_ret
  exact ⟨fz_, dr_⟩
 replace c5 := Bool.eq_false_iff.mpr c5
 subst c5
 have H1 : (if t108 = true then (some 1) else (if (Op.bytesLess a0.toList a1.toList) = true then (some (-1)) else (if (Op.bytesLess a1.toList a0.toList) = true then (some 1) else (some 0)))) = some r := by rw [if_neg (show ¬ (false = true) by decide)] at H; exact H
 clear H
 have H := H1
 clear H1
 by_cases c7 : t108 = true
 ·subst c7
  have H1 : (some 1) = some r := by rw [if_pos rfl] at H; exact H
  clear H
  have H := H1
  clear H1
  obtain rfl := Option.some.inj H
  go_enter Try.func81, Try.ntmps81
  go_wp2_with (first | ((with_reducible refine gk_ 103 ?_); refine gl_ (some 8) Try.func103 #[.string a0] ?_; (with_reducible refine (cmp_isNaN_string.calls a0 false _ A3.out).mono ?_); rintro e w' ⟨rfl, ⟨nd, rfl⟩⟩; refine ⟨_, rfl, ?_⟩) | ((with_reducible refine gk_ 103 ?_); refine gl_ (some 10) Try.func103 #[.string a1] ?_; (with_reducible refine (cmp_isNaN_string.calls a1 true _ A4.out).mono ?_); rintro e w' ⟨rfl, ⟨nd, rfl⟩⟩; refine ⟨_, rfl, ?_⟩))
  go_ret
  exact ⟨fz_, dr_⟩
 replace c7 := Bool.eq_false_iff.mpr c7
 subst c7
 have H1 : (if (Op.bytesLess a0.toList a1.toList) = true then (some (-1)) else (if (Op.bytesLess a1.toList a0.toList) = true then (some 1) else (some 0))) = some r := by rw [if_neg (show ¬ (false = true) by decide)] at H; exact H
 clear H
 have H := H1
 clear H1
 by_cases c8 : (Op.bytesLess a0.toList a1.toList) = true
 ·rw [if_pos c8] at H
  have c8b0 : (Op.bytesLess a0.toList a1.toList) = true := c8
  clear c8
  obtain rfl := Option.some.inj H
  go_enter Try.func81, Try.ntmps81
  go_wp2_with (first | ((with_reducible refine gk_ 103 ?_); refine gl_ (some 8) Try.func103 #[.string a0] ?_; (with_reducible refine (cmp_isNaN_string.calls a0 false _ A3.out).mono ?_); rintro e w' ⟨rfl, ⟨nd, rfl⟩⟩; refine ⟨_, rfl, ?_⟩) | ((with_reducible refine gk_ 103 ?_); refine gl_ (some 10) Try.func103 #[.string a1] ?_; (with_reducible refine (cmp_isNaN_string.calls a1 false _ A4.out).mono ?_); rintro e w' ⟨rfl, ⟨nd, rfl⟩⟩; refine ⟨_, rfl, ?_⟩))
  go_ret
  exact ⟨fz_, dr_⟩
 rw [if_neg c8] at H
 have c8b0 : (Op.bytesLess a0.toList a1.toList) = false := by simpa using c8
 clear c8
 by_cases c9 : (Op.bytesLess a1.toList a0.toList) = true
 ·rw [if_pos c9] at H
  have c9b0 : (Op.bytesLess a1.toList a0.toList) = true := c9
  clear c9
  obtain rfl := Option.some.inj H
  go_enter Try.func81, Try.ntmps81
  go_wp2_with (first | ((with_reducible refine gk_ 103 ?_); refine gl_ (some 8) Try.func103 #[.string a0] ?_; (with_reducible refine (cmp_isNaN_string.calls a0 false _ A3.out).mono ?_); rintro e w' ⟨rfl, ⟨nd, rfl⟩⟩; refine ⟨_, rfl, ?_⟩) | ((with_reducible refine gk_ 103 ?_); refine gl_ (some 10) Try.func103 #[.string a1] ?_; (with_reducible refine (cmp_isNaN_string.calls a1 false _ A4.out).mono ?_); rintro e w' ⟨rfl, ⟨nd, rfl⟩⟩; refine ⟨_, rfl, ?_⟩))
  go_ret
  exact ⟨fz_, dr_⟩
 rw [if_neg c9] at H
 have c9b0 : (Op.bytesLess a1.toList a0.toList) = false := by simpa using c9
 clear c9
 obtain rfl := Option.some.inj H
 go_enter Try.func81, Try.ntmps81
 go_wp2_with (first | ((with_reducible refine gk_ 103 ?_); refine gl_ (some 8) Try.func103 #[.string a0] ?_; (with_reducible refine (cmp_isNaN_string.calls a0 false _ A3.out).mono ?_); rintro e w' ⟨rfl, ⟨nd, rfl⟩⟩; refine ⟨_, rfl, ?_⟩) | ((with_reducible refine gk_ 103 ?_); refine gl_ (some 10) Try.func103 #[.string a1] ?_; (with_reducible refine (cmp_isNaN_string.calls a1 false _ A4.out).mono ?_); rintro e w' ⟨rfl, ⟨nd, rfl⟩⟩; refine ⟨_, rfl, ?_⟩))
 go_ret
 exact ⟨fz_, dr_⟩

/-! ### disk_place_1: function 80 -/
def disk_place_1.f (a0_0 : ByteArray) (a0_1 : ByteArray) (a0_2 : Int) (a1 : ByteArray) : Option (Int) := (cmp_Compare_string.f a0_0 a1).bind fun t110 => (some t110)
theorem disk_place_1.calls (a0_0 : ByteArray) (a0_1 : ByteArray) (a0_2 : Int) (a1 : ByteArray) (r : Int) (w : World) (h : disk_place_1.f a0_0 a0_1 a0_2 a1 = some r) :
  Calls Try.prog 80 #[.agg #[.string a0_0, .string a0_1, .int .i64 a0_2], .string a1] w fun e w' => e = .returned (.int .i64 r) ∧ Below w.heap.size w w' := by
 have hu71 := Try.underlying71
 have HB := a_ (Below.refl w.heap.size w)
 have H : ((cmp_Compare_string.f a0_0 a1).bind fun t110 => (some t110)) = some r := h
 clear h
 obtain ⟨t110, A30, H⟩ := Option.bind_eq_some_iff.mp H
 try dsimp only at H
 have A3 := a_ A30
 clear A30
 obtain rfl := Option.some.inj H
 go_enter Try.func80, Try.ntmps80
 go_wp2_with (first | ((with_reducible refine gd_ 2 ?_); refine bx_ 2 #[.string a0_0, .string a0_1, .int .i64 a0_2] 71 ?_; intro gb109 hg w4 hbox hb; have BK109 := a_ (hbox); have GE109 := a_ (bs_0 hg HB); replace HB := hB_ (bl_ HB) hb; clear hb hbox hg; obtain ⟨hcz5_0, hcz5_1, hcz5_2, hfz5_0, hfz5_1, hfz5_2⟩ := c3_ BK109) | ((with_reducible refine gk_ 81 ?_); refine gl_ (some 8) Try.func81 #[.string a0_0, .string a1] ?_; (with_reducible refine (cmp_Compare_string.calls a0_0 a1 t110 _ A3.out).mono ?_); rintro e w' ⟨rfl, ⟨nd, rfl⟩⟩; refine ⟨_, rfl, ?_⟩))
 go_ret
 exact ⟨fz_, bl_1 HB GE109⟩

/-! ### api_File_string: function 79 -/
def api_File_string.l0 : Nat → List (S71) → ByteArray → Int → Int → Int → Option (Int × Bool)
 | 0, _, _, _, _, _ => none
 | k + 1, x0, x1, x8, x9, x10 => if x9 < x10 then (if 0 ≤ (wrap64 ((IntKind.u64.wrap (wrap64 (x9 + x10))) / 2)) then (if (wrap64 ((IntKind.u64.wrap (wrap64 (x9 + x10))) / 2)) < (x0.length : Int) then ((disk_place_1.f ((rd_T71 x0 (wrap64 ((IntKind.u64.wrap (wrap64 (x9 + x10))) / 2))).f0) ((rd_T71 x0 (wrap64 ((IntKind.u64.wrap (wrap64 (x9 + x10))) / 2))).f1) ((rd_T71 x0 (wrap64 ((IntKind.u64.wrap (wrap64 (x9 + x10))) / 2))).f2) x1).bind fun t112 => (if t112 < 0 then (api_File_string.l0 k x0 x1 x8 (wrap64 ((wrap64 ((IntKind.u64.wrap (wrap64 (x9 + x10))) / 2)) + 1)) x10) else (api_File_string.l0 k x0 x1 x8 x9 (wrap64 ((IntKind.u64.wrap (wrap64 (x9 + x10))) / 2))))) else (none)) else (none)) else (if x9 < x8 then (if 0 ≤ x9 then (if x9 < (x0.length : Int) then ((disk_place_1.f ((rd_T71 x0 x9).f0) ((rd_T71 x0 x9).f1) ((rd_T71 x0 x9).f2) x1).bind fun t114 => (some (x9, (t114 == 0)))) else (none)) else (none)) else (some (x9, false)))
def api_File_string.f (k : Nat) (l0 : List (S71)) (a1 : ByteArray)  : Option (Int × Bool) := api_File_string.l0 k l0 a1 (l0.length : Int) 0 (l0.length : Int)
theorem api_File_string.mono_l : ∀ k, (∀ y0 y1 y2 y3 y4, LeO (api_File_string.l0 k y0 y1 y2 y3 y4) (api_File_string.l0 (k + 1) y0 y1 y2 y3 y4))
 | 0 => fun _ _ _ _ _ r h => by simp [api_File_string.l0] at h
 | k + 1 => by
  have ih0 := api_File_string.mono_l k
  ·intro y0 y1 y2 y3 y4
   unfold api_File_string.l0
   repeat' with_reducible first | exact ih0 _ _ _ _ _ | exact LeO.refl _ | exact LeO.none _ | refine LeO.ite ?_ ?_ | refine LeO.bind ?_ (fun _ => ?_)
theorem api_File_string.mono : ∀ a0 a1 k, LeO (api_File_string.f k a0 a1) (api_File_string.f (k + 1) a0 a1) := by
 intro a0 a1 k
 have ih0 := api_File_string.mono_l k
 unfold api_File_string.f
 repeat' with_reducible first | exact ih0 _ _ _ _ _ | exact LeO.refl _ | exact LeO.none _ | refine LeO.ite ?_ ?_ | refine LeO.bind ?_ (fun _ => ?_)
theorem api_File_string.calls (k : Nat) (A0 : Option Addr) (c0 : Nat) (l0 : List (S71)) (a1 : ByteArray)  (r1 : Int) (r2 : Bool) (w : World) (hr0 : Kd.C k71 w A0 l0.length l0) (hc0 : l0.length ≤ c0) (h : api_File_string.f k l0 a1 = some (r1, r2)) :
  Calls Try.prog 79 #[.slice A0 l0.length c0, .string a1, (.func (.func 80) #[] #[])] w fun e w' => e = .returned (.tuple #[.int .i64 r1, .bool r2]) ∧ Below w.heap.size w w' := by
 have hu71 := Try.underlying71
 have HR0 := a_ hr0
 have HC0 := a_ hc0
 clear hr0 hc0
 have HB := a_ (Below.refl w.heap.size w)
 have H : (api_File_string.l0 k l0 a1 (l0.length : Int) 0 (l0.length : Int)) = some (r1, r2) := h
 clear h
 have H' := a_ H
 clear H
 go_enter Try.func79, Try.ntmps79
 go_wp2
 go_loopg [9, 10] k (fun kq v9 v10 w' => ∃ (x9_1 : Int) (x10_1 : Int), v9 = .int .i64 x9_1 ∧ v10 = .int .i64 x10_1 ∧ Aside0 (api_File_string.l0 kq l0 a1 (l0.length : Int) x9_1 x10_1 = some (r1, r2)) ∧ Aside0 (kq ≤ k) ∧ Aside0 (Below w.heap.size w w'))
 case atStart => exact ⟨(0), ((l0.length : Int)), fz_, fz_, H', ⟨Nat.le_refl _⟩, ⟨bl_ HB⟩⟩
 case round =>
  clear H'
  try clear p2
  obtain ⟨x9_1, x10_1, rfl, rfl, HA, HK1, HB⟩ := hrel
  cases gk with
  | zero => exact absurd HA.out (by simp [api_File_string.l0])
  | succ k1 =>
   have H := HA.out
   clear HA
   simp only [api_File_string.l0] at H
   by_cases c4 : x9_1 < x10_1
   rotate_left
   ·rw [if_neg c4] at H
    have c4b0 : decide (x9_1 < x10_1) = false := decide_eq_false c4
    clear c4
    by_cases c12 : x9_1 < (l0.length : Int)
    rotate_left
    ·rw [if_neg c12] at H
     have c12b0 : decide (x9_1 < (l0.length : Int)) = false := decide_eq_false c12
     clear c12
     simp only [Option.some.injEq, Prod.mk.injEq] at H
     obtain ⟨rfl, rfl⟩ := H
     go_wp2
     go_ret2
     exact ⟨fz_, bl_ HB⟩


    rw [if_pos c12] at H
    have c12b0 : decide (x9_1 < (l0.length : Int)) = true := decide_eq_true c12
    clear c12
    by_cases c13 : 0 ≤ x9_1
    rotate_left
    ·rw [if_neg c13] at H
     exact absurd H (by simp)
    rw [if_pos c13] at H
    have c13b0 : decide (0 ≤ x9_1) = true := decide_eq_true c13
    clear c13
    by_cases c14 : x9_1 < (l0.length : Int)
    rotate_left
    ·rw [if_neg c14] at H
     exact absurd H (by simp)
    rw [if_pos c14] at H
    have c14b0 : decide (x9_1 < (l0.length : Int)) = true := decide_eq_true c14
    clear c14
    obtain ⟨t114, A150, H⟩ := Option.bind_eq_some_iff.mp H
    try dsimp only at H
    have A15 := a_ A150
    clear A150
    simp only [Option.some.injEq, Prod.mk.injEq] at H
    obtain ⟨rfl, rfl⟩ := H
    have p113 : 0 ≤ (x9_1 : Int) := od_
    have q113 : x9_1 < (l0.length : Int) := od_
    obtain ⟨ad113, e113, hx113_0, hx113_1, hx113_2⟩ := at_T71 HR0.out x9_1 p113 q113
    cases e113
    replace hx113_0 := hc_ HB hx113_0
    replace hx113_1 := hc_ HB hx113_1
    replace hx113_2 := hc_ HB hx113_2
    replace p113 := eq_true p113
    replace q113 := eq_true q113
    go_wp2_with (first | (go_at_call 80; (with_reducible refine (disk_place_1.calls ((rd_T71 l0 x9_1).f0) ((rd_T71 l0 x9_1).f1) ((rd_T71 l0 x9_1).f2) a1 t114 _ A15.out).mono ?_); rintro e w16 ⟨rfl, hb⟩; replace HB := hB_ (bl_ HB) hb; (try clear hb)))
    go_ret2
    exact ⟨fz_, bl_ HB⟩
   rw [if_pos c4] at H
   have c4b0 : decide (x9_1 < x10_1) = true := decide_eq_true c4
   clear c4
   obtain ⟨ji5, hji5⟩ : ∃ j_ : Int, (wrap64 ((IntKind.u64.wrap (wrap64 (x9_1 + x10_1))) / 2)) = j_ := ⟨_, rfl⟩
   replace H : (if 0 ≤ (ji5) then (if (ji5) < (l0.length : Int) then ((disk_place_1.f ((rd_T71 l0 (ji5)).f0) ((rd_T71 l0 (ji5)).f1) ((rd_T71 l0 (ji5)).f2) a1).bind fun t112 => (if t112 < 0 then (api_File_string.l0 k1 l0 a1 (l0.length : Int) (wrap64 ((ji5) + 1)) x10_1) else (api_File_string.l0 k1 l0 a1 (l0.length : Int) x9_1 ji5))) else (none)) else (none)) = some (r1, r2) := by first | (rw [hji5] at H; exact H) | (simp only [hji5] at H ⊢; exact H)
   have hji5w : (IntKind.i64.wrap ((IntKind.u64.wrap (wrap64 (x9_1 + x10_1))) / 2)) = ji5 := (i64_w _).trans hji5
   by_cases c6 : 0 ≤ (ji5)
   rotate_left
   ·rw [if_neg c6] at H
    exact absurd H (by simp)
   rw [if_pos c6] at H
   have c6b0 : decide (0 ≤ (ji5)) = true := decide_eq_true c6
   clear c6
   by_cases c7 : (ji5) < (l0.length : Int)
   rotate_left
   ·rw [if_neg c7] at H
    exact absurd H (by simp)
   rw [if_pos c7] at H
   have c7b0 : decide ((ji5) < (l0.length : Int)) = true := decide_eq_true c7
   clear c7
   obtain ⟨t112, A80, H⟩ := Option.bind_eq_some_iff.mp H
   try dsimp only at H
   have A8 := a_ A80
   clear A80
   by_cases c9 : t112 < 0
   rotate_left
   ·rw [if_neg c9] at H
    have c9b0 : decide (t112 < 0) = false := decide_eq_false c9
    clear c9
    have H' := a_ H
    clear H
    have p111 : 0 ≤ ((ji5) : Int) := od_
    have q111 : (ji5) < (l0.length : Int) := od_
    obtain ⟨ad111, e111, hx111_0, hx111_1, hx111_2⟩ := at_T71 HR0.out (ji5) p111 q111
    cases e111
    replace hx111_0 := hc_ HB hx111_0
    replace hx111_1 := hc_ HB hx111_1
    replace hx111_2 := hc_ HB hx111_2
    replace p111 := eq_true p111
    replace q111 := eq_true q111
    go_wp2_with (first | (go_at_call 80; (with_reducible refine (disk_place_1.calls ((rd_T71 l0 (ji5)).f0) ((rd_T71 l0 (ji5)).f1) ((rd_T71 l0 (ji5)).f2) a1 t112 _ A8.out).mono ?_); rintro e w11 ⟨rfl, hb⟩; replace HB := hB_ (bl_ HB) hb; (try clear hb)))
    go_roundg k1
    case measure => have := HK1.out; omega
    case rel => exact ⟨(x9_1), (ji5), fz_, (by first | rfl | (simp; done) | (simp only [← hji5] <;> (first | rfl | simp)) | (simp [*]; done)), H', ⟨by have := HK1.out; omega⟩, ⟨bl_ HB⟩⟩
   rw [if_pos c9] at H
   have c9b0 : decide (t112 < 0) = true := decide_eq_true c9
   clear c9
   have H' := a_ H
   clear H
   have p111 : 0 ≤ ((ji5) : Int) := od_
   have q111 : (ji5) < (l0.length : Int) := od_
   obtain ⟨ad111, e111, hx111_0, hx111_1, hx111_2⟩ := at_T71 HR0.out (ji5) p111 q111
   cases e111
   replace hx111_0 := hc_ HB hx111_0
   replace hx111_1 := hc_ HB hx111_1
   replace hx111_2 := hc_ HB hx111_2
   replace p111 := eq_true p111
   replace q111 := eq_true q111
   go_wp2_with (first | (go_at_call 80; (with_reducible refine (disk_place_1.calls ((rd_T71 l0 (ji5)).f0) ((rd_T71 l0 (ji5)).f1) ((rd_T71 l0 (ji5)).f2) a1 t112 _ A8.out).mono ?_); rintro e w10 ⟨rfl, hb⟩; replace HB := hB_ (bl_ HB) hb; (try clear hb)))
   go_roundg k1
   case measure => have := HK1.out; omega
   case rel => exact ⟨(wrap64 ((ji5) + 1)), (x10_1), (by first | rfl | (simp; done) | (simp only [← hji5] <;> (first | rfl | simp)) | (simp [*]; done)), fz_, H', ⟨by have := HK1.out; omega⟩, ⟨bl_ HB⟩⟩
/-! ### disk_place: function 50 -/
def disk_place.f (k : Nat) (l0_0 : List (S71)) (a0_1 : Bool) (a0_2 : Int) (a1 : ByteArray) : Option (Int × Bool) := (api_File_string.f k l0_0 a1).bind fun bt116 => (some (bt116.1, bt116.2))
theorem disk_place.mono : ∀ a0 a1 a2 a3 k, LeO (disk_place.f k a0 a1 a2 a3) (disk_place.f (k + 1) a0 a1 a2 a3) := by
 intro a0 a1 a2 a3 k
 unfold disk_place.f
 repeat' with_reducible first | exact api_File_string.mono _ _ _ | exact LeO.refl _ | exact LeO.none _ | refine LeO.ite ?_ ?_ | refine LeO.bind ?_ (fun _ => ?_)
theorem disk_place.calls (k : Nat) (A0_0 : Option Addr) (c0_0 : Nat) (l0_0 : List (S71)) (a0_1 : Bool) (a0_2 : Int) (a1 : ByteArray) (r1 : Int) (r2 : Bool) (w : World) (hr0_0 : Kd.C k71 w A0_0 l0_0.length l0_0) (hc0_0 : l0_0.length ≤ c0_0) (h : disk_place.f k l0_0 a0_1 a0_2 a1 = some (r1, r2)) :
  Calls Try.prog 50 #[.agg #[.slice A0_0 l0_0.length c0_0, .bool a0_1, .int .i64 a0_2], .string a1] w fun e w' => e = .returned (.tuple #[.int .i64 r1, .bool r2]) ∧ Below w.heap.size w w' := by
 have hu24 := Try.underlying24
 have HR0_0 := a_ hr0_0
 have HC0_0 := a_ hc0_0
 clear hr0_0 hc0_0
 have HB := a_ (Below.refl w.heap.size w)
 have H : ((api_File_string.f k l0_0 a1).bind fun bt116 => (some (bt116.1, bt116.2))) = some (r1, r2) := h
 clear h
 obtain ⟨⟨t116, t117⟩, A30, H⟩ := Option.bind_eq_some_iff.mp H
 try dsimp only at H
 have A3 := a_ A30
 clear A30
 simp only [Option.some.injEq, Prod.mk.injEq] at H
 obtain ⟨rfl, rfl⟩ := H
 go_enter Try.func50, Try.ntmps50
 go_wp2_with (first | ((with_reducible refine gd_ 2 ?_); refine bx_ 2 #[.slice A0_0 l0_0.length c0_0, .bool a0_1, .int .i64 a0_2] 24 ?_; intro gb115 hg w4 hbox hb; have BK115 := a_ (hbox); have GE115 := a_ (bs_0 hg HB); replace HB := hB_ (bl_ HB) hb; clear hb hbox hg; obtain ⟨hcz5_0, hcz5_1, hcz5_2, hfz5_0, hfz5_1, hfz5_2⟩ := c3_ BK115) | ((with_reducible refine gk_ 79 ?_); refine gl_ (some 9) Try.func79 #[.slice A0_0 l0_0.length c0_0, .string a1, (.func (.func 80) #[] #[])] ?_; (with_reducible refine (api_File_string.calls k _ _ l0_0 a1  t116 t117 _ ?side1 ?side2 A3.out).mono ?_); (case side1 => exact cl_ (Kd.C_below HR0_0.out HB.out)); (case side2 => exact HC0_0.out); rintro e w6 ⟨rfl, hb⟩; refine ⟨_, rfl, ?_⟩; replace BK115 := bB_ BK115 hb; replace HB := hB_ (bl_1 HB GE115) hb; (try clear hb)))
 go_ret2
 exact ⟨fz_, bl_1 HB GE115⟩

/-! ### disk_Read: function 24 -/
def disk_Read.f (k : Nat) (l0_0 : List (S71)) (a0_1 : Bool) (a0_2 : Int) (a1 : ByteArray) : Option (ByteArray × Int) := (disk_asked.f k l0_0 a0_1 a0_2).bind fun t119 => (if t119 = 0 then ((disk_place.f k l0_0 a0_1 a0_2 a1).bind fun bt120 => (if bt120.2 = true then (if 0 ≤ bt120.1 then (if bt120.1 < (l0_0.length : Int) then (some ((rd_T71 l0_0 bt120.1).f1, 0)) else (none)) else (none)) else (some ((⟨#[]⟩ : ByteArray), 6)))) else (some ((⟨#[]⟩ : ByteArray), t119)))
theorem disk_Read.mono : ∀ a0 a1 a2 a3 k, LeO (disk_Read.f k a0 a1 a2 a3) (disk_Read.f (k + 1) a0 a1 a2 a3) := by
 intro a0 a1 a2 a3 k
 unfold disk_Read.f
 repeat' with_reducible first | exact disk_asked.mono _ _ _ _ | exact disk_place.mono _ _ _ _ _ | exact LeO.refl _ | exact LeO.none _ | refine LeO.ite ?_ ?_ | refine LeO.bind ?_ (fun _ => ?_)
theorem disk_Read.calls (k : Nat) (A0_0 : Option Addr) (c0_0 : Nat) (l0_0 : List (S71)) (a0_1 : Bool) (a0_2 : Int) (a1 : ByteArray) (r1 : ByteArray) (r2 : Int) (w : World) (hr0_0 : Kd.C k71 w A0_0 l0_0.length l0_0) (hc0_0 : l0_0.length ≤ c0_0) (h : disk_Read.f k l0_0 a0_1 a0_2 a1 = some (r1, r2)) :
  Calls Try.prog 24 #[.agg #[.slice A0_0 l0_0.length c0_0, .bool a0_1, .int .i64 a0_2], .string a1] w fun e w' => e = .returned (.tuple #[.string r1, .int .i64 r2]) ∧ Below w.heap.size w w' := by
 have hu24 := Try.underlying24
 have HR0_0 := a_ hr0_0
 have HC0_0 := a_ hc0_0
 clear hr0_0 hc0_0
 have HB := a_ (Below.refl w.heap.size w)
 have H : ((disk_asked.f k l0_0 a0_1 a0_2).bind fun t119 => (if t119 = 0 then ((disk_place.f k l0_0 a0_1 a0_2 a1).bind fun bt120 => (if bt120.2 = true then (if 0 ≤ bt120.1 then (if bt120.1 < (l0_0.length : Int) then (some ((rd_T71 l0_0 bt120.1).f1, 0)) else (none)) else (none)) else (some ((⟨#[]⟩ : ByteArray), 6)))) else (some ((⟨#[]⟩ : ByteArray), t119)))) = some (r1, r2) := h
 clear h
 obtain ⟨t119, A30, H⟩ := Option.bind_eq_some_iff.mp H
 try dsimp only at H
 have A3 := a_ A30
 clear A30
 by_cases c4 : t119 = 0
 rotate_left
 ·rw [if_neg c4] at H
  have c4b0 : (t119 == 0) = false := beq_eq_false_iff_ne.mpr c4
  have c4b1 : (t119 != 0) = true := bne_iff_ne.mpr c4
  simp only [Option.some.injEq, Prod.mk.injEq] at H
  obtain ⟨rfl, rfl⟩ := H
  go_enter Try.func24, Try.ntmps24
  go_wp2_with (first | ((with_reducible refine gd_ 2 ?_); refine bx_ 2 #[.slice A0_0 l0_0.length c0_0, .bool a0_1, .int .i64 a0_2] 24 ?_; intro gb118 hg w20 hbox hb; have BK118 := a_ (hbox); have GE118 := a_ (bs_0 hg HB); replace HB := hB_ (bl_ HB) hb; clear hb hbox hg; obtain ⟨hcz21_0, hcz21_1, hcz21_2, hfz21_0, hfz21_1, hfz21_2⟩ := c3_ BK118) | ((with_reducible refine gk_ 49 ?_); refine gl_ (some 10) Try.func49 #[.agg #[.slice A0_0 l0_0.length c0_0, .bool a0_1, .int .i64 a0_2]] ?_; (with_reducible refine (disk_asked.calls k _ _ l0_0 a0_1 a0_2 t119 _ ?side1 ?side2 A3.out).mono ?_); (case side1 => exact cl_ (Kd.C_below HR0_0.out HB.out)); (case side2 => exact HC0_0.out); rintro e w22 ⟨rfl, hb⟩; refine ⟨_, rfl, ?_⟩; replace BK118 := bB_ BK118 hb; replace HB := hB_ (bl_1 HB GE118) hb; (try clear hb)))
  go_ret2
  exact ⟨fz_, bl_1 HB GE118⟩


 rw [if_pos c4] at H
 have c4b0 : (t119 == 0) = true := beq_iff_eq.mpr c4
 have c4b1 : (t119 != 0) = false := bne_eq_false_iff_eq.mpr c4
 clear c4
 obtain ⟨⟨t120, t121⟩, A50, H⟩ := Option.bind_eq_some_iff.mp H
 try dsimp only at H
 have A5 := a_ A50
 clear A50
 by_cases c6 : t121 = true
 rotate_left
 ·replace c6 := Bool.eq_false_iff.mpr c6
  subst c6
  have H1 : (some ((⟨#[]⟩ : ByteArray), 6)) = some (r1, r2) := by rw [if_neg (show ¬ (false = true) by decide)] at H; exact H
  clear H
  have H := H1
  clear H1
  simp only [Option.some.injEq, Prod.mk.injEq] at H
  obtain ⟨rfl, rfl⟩ := H
  go_enter Try.func24, Try.ntmps24
  go_wp2_with (first | ((with_reducible refine gd_ 2 ?_); refine bx_ 2 #[.slice A0_0 l0_0.length c0_0, .bool a0_1, .int .i64 a0_2] 24 ?_; intro gb118 hg w15 hbox hb; have BK118 := a_ (hbox); have GE118 := a_ (bs_0 hg HB); replace HB := hB_ (bl_ HB) hb; clear hb hbox hg; obtain ⟨hcz16_0, hcz16_1, hcz16_2, hfz16_0, hfz16_1, hfz16_2⟩ := c3_ BK118) | ((with_reducible refine gk_ 49 ?_); refine gl_ (some 10) Try.func49 #[.agg #[.slice A0_0 l0_0.length c0_0, .bool a0_1, .int .i64 a0_2]] ?_; (with_reducible refine (disk_asked.calls k _ _ l0_0 a0_1 a0_2 t119 _ ?side1 ?side2 A3.out).mono ?_); (case side1 => exact cl_ (Kd.C_below HR0_0.out HB.out)); (case side2 => exact HC0_0.out); rintro e w17 ⟨rfl, hb⟩; refine ⟨_, rfl, ?_⟩; replace BK118 := bB_ BK118 hb; replace HB := hB_ (bl_1 HB GE118) hb; (try clear hb); obtain ⟨hcz18_0, hcz18_1, hcz18_2, hfz18_0, hfz18_1, hfz18_2⟩ := c3_ BK118) | ((with_reducible refine gk_ 50 ?_); refine gl_ (some 17) Try.func50 #[.agg #[.slice A0_0 l0_0.length c0_0, .bool a0_1, .int .i64 a0_2], .string a1] ?_; (with_reducible refine (disk_place.calls k _ _ l0_0 a0_1 a0_2 a1 t120 false _ ?side1 ?side2 A5.out).mono ?_); (case side1 => exact cl_ (Kd.C_below HR0_0.out HB.out)); (case side2 => exact HC0_0.out); rintro e w19 ⟨rfl, hb⟩; refine ⟨_, rfl, ?_⟩; replace BK118 := bB_ BK118 hb; replace HB := hB_ (bl_1 HB GE118) hb; (try clear hb)))
  go_ret2
  exact ⟨fz_, bl_1 HB GE118⟩
 subst c6
 have H1 : (if 0 ≤ t120 then (if t120 < (l0_0.length : Int) then (some ((rd_T71 l0_0 t120).f1, 0)) else (none)) else (none)) = some (r1, r2) := by rw [if_pos rfl] at H; exact H
 clear H
 have H := H1
 clear H1
 by_cases c7 : 0 ≤ t120
 rotate_left
 ·rw [if_neg c7] at H
  exact absurd H (by simp)
 rw [if_pos c7] at H
 have c7b0 : decide (0 ≤ t120) = true := decide_eq_true c7
 clear c7
 by_cases c8 : t120 < (l0_0.length : Int)
 rotate_left
 ·rw [if_neg c8] at H
  exact absurd H (by simp)
 rw [if_pos c8] at H
 have c8b0 : decide (t120 < (l0_0.length : Int)) = true := decide_eq_true c8
 clear c8
 simp only [Option.some.injEq, Prod.mk.injEq] at H
 obtain ⟨rfl, rfl⟩ := H
 go_enter Try.func24, Try.ntmps24
 go_wp2_with (first | ((with_reducible refine gd_ 2 ?_); refine bx_ 2 #[.slice A0_0 l0_0.length c0_0, .bool a0_1, .int .i64 a0_2] 24 ?_; intro gb118 hg w9 hbox hb; have BK118 := a_ (hbox); have GE118 := a_ (bs_0 hg HB); replace HB := hB_ (bl_ HB) hb; clear hb hbox hg; obtain ⟨hcz10_0, hcz10_1, hcz10_2, hfz10_0, hfz10_1, hfz10_2⟩ := c3_ BK118) | ((with_reducible refine gk_ 49 ?_); refine gl_ (some 10) Try.func49 #[.agg #[.slice A0_0 l0_0.length c0_0, .bool a0_1, .int .i64 a0_2]] ?_; (with_reducible refine (disk_asked.calls k _ _ l0_0 a0_1 a0_2 t119 _ ?side1 ?side2 A3.out).mono ?_); (case side1 => exact cl_ (Kd.C_below HR0_0.out HB.out)); (case side2 => exact HC0_0.out); rintro e w11 ⟨rfl, hb⟩; refine ⟨_, rfl, ?_⟩; replace BK118 := bB_ BK118 hb; replace HB := hB_ (bl_1 HB GE118) hb; (try clear hb); obtain ⟨hcz12_0, hcz12_1, hcz12_2, hfz12_0, hfz12_1, hfz12_2⟩ := c3_ BK118) | ((with_reducible refine gk_ 50 ?_); refine gl_ (some 17) Try.func50 #[.agg #[.slice A0_0 l0_0.length c0_0, .bool a0_1, .int .i64 a0_2], .string a1] ?_; (with_reducible refine (disk_place.calls k _ _ l0_0 a0_1 a0_2 a1 t120 true _ ?side1 ?side2 A5.out).mono ?_); (case side1 => exact cl_ (Kd.C_below HR0_0.out HB.out)); (case side2 => exact HC0_0.out); rintro e w13 ⟨rfl, hb⟩; refine ⟨_, rfl, ?_⟩; replace BK118 := bB_ BK118 hb; replace HB := hB_ (bl_1 HB GE118) hb; (try clear hb); obtain ⟨hcz14_0, hcz14_1, hcz14_2, hfz14_0, hfz14_1, hfz14_2⟩ := c3_ BK118; have p122 : 0 ≤ (t120 : Int) := od_; have q122 : t120 < (l0_0.length : Int) := od_; obtain ⟨ad122, e122, hx122_0, hx122_1, hx122_2⟩ := at_T71 HR0_0.out t120 p122 q122; cases e122; replace hx122_0 := (HB.out.cell (World.block_lt_of_cell? w _ hx122_0)).trans hx122_0; replace hx122_1 := (HB.out.cell (World.block_lt_of_cell? w _ hx122_1)).trans hx122_1; replace hx122_2 := (HB.out.cell (World.block_lt_of_cell? w _ hx122_2)).trans hx122_2; replace p122 := eq_true p122; replace q122 := eq_true q122))
 go_ret2
 exact ⟨fz_, bl_1 HB GE118⟩
/-! ### wal_Members: function 56 -/
def wal_Members.l0 : Nat → Int → List Int → Int → Int → Option (Bool)
 | 0, _, _, _, _ => none
 | k + 1, x3, x6, x7, x8 => if x8 < x7 then (if 0 ≤ x8 then (if x8 < (x6.length : Int) then (if (rd x6 x8) ≤ x3 then (some false) else (if (rd x6 x8) > 7 then (some false) else (wal_Members.l0 k (rd x6 x8) x6 x7 (wrap64 (x8 + 1))))) else (none)) else (none)) else (some (decide (x3 > 0)))
def wal_Members.f (k : Nat) (l0 : List Int) : Option (Bool) := wal_Members.l0 k 0 l0 (l0.length : Int) 0
theorem wal_Members.mono_l : ∀ k, (∀ y0 y1 y2 y3, LeO (wal_Members.l0 k y0 y1 y2 y3) (wal_Members.l0 (k + 1) y0 y1 y2 y3))
 | 0 => fun _ _ _ _ r h => by simp [wal_Members.l0] at h
 | k + 1 => by
  have ih0 := wal_Members.mono_l k
  ·intro y0 y1 y2 y3
   unfold wal_Members.l0
   repeat' with_reducible first | exact ih0 _ _ _ _ | exact LeO.refl _ | exact LeO.none _ | refine LeO.ite ?_ ?_ | refine LeO.bind ?_ (fun _ => ?_)
theorem wal_Members.mono : ∀ a0 k, LeO (wal_Members.f k a0) (wal_Members.f (k + 1) a0) := by
 intro a0 k
 have ih0 := wal_Members.mono_l k
 unfold wal_Members.f
 repeat' with_reducible first | exact ih0 _ _ _ _ | exact LeO.refl _ | exact LeO.none _ | refine LeO.ite ?_ ?_ | refine LeO.bind ?_ (fun _ => ?_)
theorem wal_Members.calls (k : Nat) (A0 : Option Addr) (c0 : Nat) (l0 : List Int) (r : Bool) (w : World) (hr0 : Kd.C (Kd.int .i64) w A0 l0.length l0) (hc0 : l0.length ≤ c0) (h : wal_Members.f k l0 = some r) :
  Calls Try.prog 56 #[.slice A0 l0.length c0] w fun e w' => e = .returned (.bool r) ∧ Drawn0 w w' := by
 have HR0 := a_ hr0
 have HC0 := a_ hc0
 clear hr0 hc0
 have H : (wal_Members.l0 k 0 l0 (l0.length : Int) 0) = some r := h
 clear h
 have H' := a_ H
 clear H
 go_enter Try.func56, Try.ntmps56
 go_wp2
 go_loopg [3, 8] k (fun kq v3 v8 w' => ∃ (x3_1 : Int) (x8_1 : Int), v3 = .int .i64 x3_1 ∧ v8 = .int .i64 x8_1 ∧ Aside0 (wal_Members.l0 kq x3_1 l0 (l0.length : Int) x8_1 = some r) ∧ Aside0 (kq ≤ k) ∧ Drawn0 w w')
 case atStart => exact ⟨(0), (0), fz_, fz_, H', ⟨Nat.le_refl _⟩, dr_⟩
 case round =>
  clear H'
  obtain ⟨x3_1, x8_1, rfl, rfl, HA, HK1, ⟨m1, rfl⟩⟩ := hrel
  cases gk with
  | zero => exact absurd HA.out (by simp [wal_Members.l0])
  | succ k1 =>
   have H := HA.out
   clear HA
   simp only [wal_Members.l0] at H
   by_cases c2 : x8_1 < (l0.length : Int)
   rotate_left
   ·rw [if_neg c2] at H
    have c2b0 : decide (x8_1 < (l0.length : Int)) = false := decide_eq_false c2
    clear c2
    obtain rfl := Option.some.inj H
    go_wp2
    go_ret
    exact ⟨fz_, dr_⟩


   rw [if_pos c2] at H
   have c2b0 : decide (x8_1 < (l0.length : Int)) = true := decide_eq_true c2
   clear c2
   by_cases c3 : 0 ≤ x8_1
   rotate_left
   ·rw [if_neg c3] at H
    exact absurd H (by simp)
   rw [if_pos c3] at H
   have c3b0 : decide (0 ≤ x8_1) = true := decide_eq_true c3
   clear c3
   by_cases c4 : x8_1 < (l0.length : Int)
   rotate_left
   ·rw [if_neg c4] at H
    exact absurd H (by simp)
   rw [if_pos c4] at H
   have c4b0 : decide (x8_1 < (l0.length : Int)) = true := decide_eq_true c4
   clear c4
   by_cases c5 : (rd l0 x8_1) ≤ x3_1
   ·rw [if_pos c5] at H
    have c5b0 : decide ((rd l0 x8_1) ≤ x3_1) = true := decide_eq_true c5
    clear c5
    obtain rfl := Option.some.inj H
    have p123 : 0 ≤ (x8_1 : Int) := od_
    have q123 : x8_1 < (l0.length : Int) := od_
    obtain ⟨ad123, e123, hx123_0⟩ := Kd.at_int HR0.out x8_1 p123 q123
    cases e123
    replace p123 := eq_true p123
    replace q123 := eq_true q123
    go_wp2
    go_ret
    exact ⟨fz_, dr_⟩
   rw [if_neg c5] at H
   have c5b0 : decide ((rd l0 x8_1) ≤ x3_1) = false := decide_eq_false c5
   clear c5
   by_cases c6 : (rd l0 x8_1) > 7
   ·rw [if_pos c6] at H
    have c6b0 : decide (7 < (rd l0 x8_1)) = true := decide_eq_true c6
    clear c6
    obtain rfl := Option.some.inj H
    have p123 : 0 ≤ (x8_1 : Int) := od_
    have q123 : x8_1 < (l0.length : Int) := od_
    obtain ⟨ad123, e123, hx123_0⟩ := Kd.at_int HR0.out x8_1 p123 q123
    cases e123
    replace p123 := eq_true p123
    replace q123 := eq_true q123
    go_wp2
    go_ret
    exact ⟨fz_, dr_⟩
   rw [if_neg c6] at H
   have c6b0 : decide (7 < (rd l0 x8_1)) = false := decide_eq_false c6
   clear c6
   have H' := a_ H
   clear H
   have p123 : 0 ≤ (x8_1 : Int) := od_
   have q123 : x8_1 < (l0.length : Int) := od_
   obtain ⟨ad123, e123, hx123_0⟩ := Kd.at_int HR0.out x8_1 p123 q123
   cases e123
   replace p123 := eq_true p123
   replace q123 := eq_true q123
   go_wp2
   go_roundg k1
   case measure => have := HK1.out; omega
   case rel => exact ⟨(rd l0 x8_1), (wrap64 (x8_1 + 1)), fz_, fz_, H', ⟨by have := HK1.out; omega⟩, dr_⟩end Go.Proofs.Ytpigjmjbfpipnaa.PE
