-- By a program of this session.
import Derived.Test.YtpigjmjbfpipnaaPDx0
import Derived.Test.YtpigjmjbfpipnaaPDx1
import Derived.Test.YtpigjmjbfpipnaaPDx3
import Derived.Test.YtpigjmjbfpipnaaPDx6
import Derived.Test.YtpigjmjbfpipnaaPDx9
import Derived.Test.YtpigjmjbfpipnaaPDx13
namespace Go.Proofs.Ytpigjmjbfpipnaa.PD
open Go.RowKit YtpigjmjbfpipnaaW.PrintWords YtpigjmjbfpipnaaW.PrintLast YtpigjmjbfpipnaaW.PrintMore Sh Ytpigjmjbfpipnaa.Op
attribute [local go_sem] max2_int min2_int max_two min_two max_three min_three max_four min_four
set_option linter.unusedVariables false
set_option maxHeartbeats 80000000
set_option maxRecDepth 100000
set_option linter.unusedSimpArgs false

attribute [local go_sem high] eqA27
def disk_Crash.l0 : Nat → List Int → Int → Int → List (S71) → Bool → Int → Option ((List (S71)) × Bool × Int × Int)
 | 0, _, _, _, _, _, _ => none
 | k + 1, x1, x23, x24, x545000, x545001, x545002 => if x24 < x23 then (if 0 ≤ x24 then (if x24 < (x545000.length : Int) then (if 0 ≤ ((rd_T71 x545000 x24).f2) then (if ((rd_T71 x545000 x24).f2) ≤ (((rd_T71 x545000 x24).f1).size : Int) then (if x24 ≥ (x1.length : Int) then (disk_Crash.l0 k x1 x23 (wrap64 (x24 + 1)) (x545000.set (x24 : Int).toNat (⟨(rd_T71 x545000 x24).f0, ((rd_T71 x545000 x24).f1).extract 0 (((rd_T71 x545000 x24).f2) : Int).toNat, (rd_T71 x545000 x24).f2⟩ : S71)) x545001 x545002) else (none)) else (none)) else (none)) else (none)) else (none)) else (some (x545000, x545001, x545002, 0))
def disk_Crash.f (k : Nat) (l0_0 : List (S71)) (a0_1 : Bool) (a0_2 : Int) (l1 : List Int) : Option ((List (S71)) × Bool × Int × Int) := (disk_Check.f k l0_0 a0_1 a0_2).bind fun t540 => (if t540 = 0 then ((api_File_48.f l0_0).bind fun t541 => (disk_Crash.l0 k l1 (t541.length : Int) 0 t541 false (-1))) else (none))
theorem disk_Crash.mono_l : ∀ k, (∀ y0 y1 y2 y3 y4 y5, LeO (disk_Crash.l0 k y0 y1 y2 y3 y4 y5) (disk_Crash.l0 (k + 1) y0 y1 y2 y3 y4 y5))
 | 0 => fun _ _ _ _ _ _ r h => by simp [disk_Crash.l0] at h
 | k + 1 => by
  have ih0 := disk_Crash.mono_l k
  ·intro y0 y1 y2 y3 y4 y5
   unfold disk_Crash.l0
   repeat' with_reducible first | apply ih0 | apply disk_Check.mono | apply LeO.refl | apply LeO.none | apply LeO.ite | refine LeO.bind ?_ (fun _ => ?_)
theorem disk_Crash.mono : ∀ a0 a1 a2 a3 k, LeO (disk_Crash.f k a0 a1 a2 a3) (disk_Crash.f (k + 1) a0 a1 a2 a3) := by
 intro a0 a1 a2 a3 k
 have ih0 := disk_Crash.mono_l k
 unfold disk_Crash.f
 repeat' with_reducible first | apply ih0 | apply disk_Check.mono | apply LeO.refl | apply LeO.none | apply LeO.ite | refine LeO.bind ?_ (fun _ => ?_)
def disk_Crash.T9 : Bool × List (List Nat × List Nat) := (true, [([], []), ([0], [0]), ([1], [1]), ([2], [2]), ([3], [3]), ([], []), ([5], [5]), ([6], [6]), ([7], [7]), ([4, 8], [4, 8]), ([9, 0, 1, 2, 3, 4, 5, 6, 7, 8, 9], [9])])
def disk_Crash.B9 : List Nat := [0, 1, 3, 7, 15, 0, 32, 96, 224, 511, 1023]
theorem disk_Crash.tab9 : rtab .any (opsOf Try.f23 9) = disk_Crash.T9 := by kernel_rfl
theorem disk_Crash.bits9 : waitsOk disk_Crash.T9.2 disk_Crash.B9 = true := by kernel_rfl
def disk_Crash.T10 : Bool × List (List Nat × List Nat) := (true, [([], []), ([], []), ([1], [1]), ([2], [2]), ([3], [3]), ([], []), ([5], [5]), ([6], [6]), ([7], [7]), ([4, 8], [4, 8]), ([0, 0, 1, 2, 3, 4, 5, 6, 7, 8, 9], [0]), ([10, 0, 1, 2, 3, 4, 5, 6, 7, 8, 9], [10]), ([11, 9, 0, 1, 2, 3, 4, 5, 6, 7, 8, 9], [9, 11])])
def disk_Crash.B10 : List Nat := [0, 0, 2, 6, 14, 0, 32, 96, 224, 510, 1023, 2047, 4095]
theorem disk_Crash.tab10 : rtab .any (opsOf Try.f23 10) = disk_Crash.T10 := by kernel_rfl
theorem disk_Crash.bits10 : waitsOk disk_Crash.T10.2 disk_Crash.B10 = true := by kernel_rfl
theorem disk_Crash.calls (k : Nat) (A0_0 : Option Addr) (c0_0 : Nat) (l0_0 : List (S71)) (a0_1 : Bool) (a0_2 : Int) (A1 : Option Addr) (c1 : Nat) (l1 : List Int) (r1 : List (S71)) (r2 : Bool) (r3 : Int) (r4 : Int) (w : World) (hr0_0 : Kd.C k71 w A0_0 l0_0.length l0_0) (hc0_0 : l0_0.length ≤ c0_0) (hr1 : Kd.C (Kd.int .i64) w A1 l1.length l1) (hc1 : l1.length ≤ c1) (h : disk_Crash.f k l0_0 a0_1 a0_2 l1 = some (r1, r2, r3, r4)) :
  Calls Try.prog 23 #[.agg #[.slice A0_0 l0_0.length c0_0, .bool a0_1, .int .i64 a0_2], .slice A1 l1.length c1] w fun e w' => ∃ v0_ : Value, e = .returned (.tuple #[.agg #[v0_, .bool r2, .int .i64 r3], .int .i64 r4]) ∧ Kd.R k71 71 w' w.heap.size (fun _ => True) v0_ r1 ∧ Below w.heap.size w w' := by
 have hu24 := Try.underlying24
 have HR0_0 := a_ hr0_0
 have HC0_0 := a_ hc0_0
 clear hr0_0 hc0_0
 have HR1 := a_ hr1
 have HC1 := a_ hc1
 clear hr1 hc1
 have HB := a_ (Below.refl w.heap.size w)
 have H : ((disk_Check.f k l0_0 a0_1 a0_2).bind fun t540 => (if t540 = 0 then ((api_File_48.f l0_0).bind fun t541 => (disk_Crash.l0 k l1 (t541.length : Int) 0 t541 false (-1))) else (none))) = some (r1, r2, r3, r4) := h
 clear h
 obtain ⟨t540, A30, H⟩ := Option.bind_eq_some_iff.mp H
 try dsimp only at H
 have A3 := a_ A30
 clear A30
 by_cases c4 : t540 = 0
 rotate_left
 ·rw [if_neg c4] at H
  exact absurd H (by simp)


 rw [if_pos c4] at H
 have c4b0 : (t540 == 0) = true := beq_iff_eq.mpr c4
 have c4b1 : (t540 != 0) = false := bne_eq_false_iff_eq.mpr c4
 clear c4
 obtain ⟨t541, A50, H⟩ := Option.bind_eq_some_iff.mp H
 try dsimp only at H
 have A5 := a_ A50
 clear A50
 have H' := a_ H
 clear H
 go_enter Try.func23, Try.ntmps23
 go_wp2_with (first | ((with_reducible refine gd_ 2 ?_); refine bx_ 2 #[.slice A0_0 l0_0.length c0_0, .bool a0_1, .int .i64 a0_2] 24 ?_; intro gb538 hg w6 hbox hb; have BK538 := a_ (hbox); have GE538 := a_ (bs_0 hg HB); replace HB := hB_ (bl_ HB) hb; clear hb hbox hg) | ((with_reducible refine gd_ 4 ?_); refine bx_ 4 #[.slice none 0 0, .bool false, .int .i64 0] 24 ?_; intro gb539 hg w7 hbox hb; have BK539 := a_ (hbox); have GE539 := a_ (bs_1 hg HB GE538); replace HB := hB_ (bl_1 HB GE538) hb; have NB538_539 := nB_ hg BK538; have NB539_538 := nC_ hg BK538; replace BK538 := bB_ BK538 hb; clear hb hbox hg; have hnb8 := NB538_539.out; have hnc8 := NB539_538.out; obtain ⟨hcz9_0, hcz9_1, hcz9_2, hfz9_0, hfz9_1, hfz9_2⟩ := c3_ BK538) | ((with_reducible refine gk_ 37 ?_); refine gl_ (some 12) Try.func37 #[.agg #[.slice A0_0 l0_0.length c0_0, .bool a0_1, .int .i64 a0_2]] ?_; (with_reducible refine (disk_Check.calls k _ _ l0_0 a0_1 a0_2 t540 _ ?side1 ?side2 A3.out).mono ?_); (case side1 => exact cl_ (Kd.C_below HR0_0.out HB.out)); (case side2 => exact HC0_0.out); rintro e w10 ⟨rfl, hb⟩; refine ⟨_, rfl, ?_⟩; replace BK538 := bB_ BK538 hb; replace BK539 := bB_ BK539 hb; replace HB := hB_ (bl_2 HB GE538 GE539) hb; (try clear hb); obtain ⟨hcz11_0, hcz11_1, hcz11_2, hfz11_0, hfz11_1, hfz11_2⟩ := c3_ BK538) | ((with_reducible refine gk_ 48 ?_); refine gl_ (some 19) Try.func48 #[.slice A0_0 l0_0.length c0_0] ?_; (with_reducible refine (api_File_48.calls _ _ l0_0 t541 _ ?side1 ?side2 A5.out).mono ?_); (case side1 => exact cl_ (Kd.C_below HR0_0.out HB.out)); (case side2 => exact HC0_0.out); rintro e w12 ⟨v542, rfl, ho0, hb⟩; refine ⟨_, rfl, ?_⟩; have HO543 := a_ (Kd.R_lower ho0 (below_size (bl_2 HB GE538 GE539))); replace BK538 := bB_ BK538 hb; replace BK539 := bB_ BK539 hb; replace HB := hB_ (bl_2 HB GE538 GE539) hb; (try clear hb); (try clear ho0); obtain ⟨Ao13, co13, eo13⟩ := Kd.R_slice HO543.out; subst eo13) | ((with_reducible refine gd_ 7 ?_); refine bx_ 7 #[.slice none 0 0, .bool false, .int .i64 0] 24 ?_; intro gb544 hg w14 hbox hb; replace HO543 := a_ (Kd.R_below (by refine rq_ ?_; exact HO543.out) hb); have BK544 := a_ (hbox); have GE544 := a_ (bs_2 hg HB GE538 GE539); replace HB := hB_ (bl_2 HB GE538 GE539) hb; have NB538_544 := nB_ hg BK538; have NB544_538 := nC_ hg BK538; replace BK538 := bB_ BK538 hb; have NB539_544 := nB_ hg BK539; have NB544_539 := nC_ hg BK539; replace BK539 := bB_ BK539 hb; clear hb hbox hg; have hnb15 := NB544_538.out; have hnc15 := NB538_544.out; have hnb16 := NB544_539.out; have hnc16 := NB539_544.out; obtain ⟨hcz17_0, hcz17_1, hcz17_2, hfz17_0, hfz17_1, hfz17_2⟩ := c3_ BK544))
 repeat (go_step3; try (go_wp2_with (first | ((with_reducible refine gd_ 2 ?_); refine bx_ 2 #[.slice A0_0 l0_0.length c0_0, .bool a0_1, .int .i64 a0_2] 24 ?_; intro gb538 hg w6 hbox hb; have BK538 := a_ (hbox); have GE538 := a_ (bs_0 hg HB); replace HB := hB_ (bl_ HB) hb; clear hb hbox hg) | ((with_reducible refine gd_ 4 ?_); refine bx_ 4 #[.slice none 0 0, .bool false, .int .i64 0] 24 ?_; intro gb539 hg w7 hbox hb; have BK539 := a_ (hbox); have GE539 := a_ (bs_1 hg HB GE538); replace HB := hB_ (bl_1 HB GE538) hb; have NB538_539 := nB_ hg BK538; have NB539_538 := nC_ hg BK538; replace BK538 := bB_ BK538 hb; clear hb hbox hg; have hnb8 := NB538_539.out; have hnc8 := NB539_538.out; obtain ⟨hcz9_0, hcz9_1, hcz9_2, hfz9_0, hfz9_1, hfz9_2⟩ := c3_ BK538) | ((with_reducible refine gk_ 37 ?_); refine gl_ (some 12) Try.func37 #[.agg #[.slice A0_0 l0_0.length c0_0, .bool a0_1, .int .i64 a0_2]] ?_; (with_reducible refine (disk_Check.calls k _ _ l0_0 a0_1 a0_2 t540 _ ?side1 ?side2 A3.out).mono ?_); (case side1 => exact cl_ (Kd.C_below HR0_0.out HB.out)); (case side2 => exact HC0_0.out); rintro e w10 ⟨rfl, hb⟩; refine ⟨_, rfl, ?_⟩; replace BK538 := bB_ BK538 hb; replace BK539 := bB_ BK539 hb; replace HB := hB_ (bl_2 HB GE538 GE539) hb; (try clear hb); obtain ⟨hcz11_0, hcz11_1, hcz11_2, hfz11_0, hfz11_1, hfz11_2⟩ := c3_ BK538) | ((with_reducible refine gk_ 48 ?_); refine gl_ (some 19) Try.func48 #[.slice A0_0 l0_0.length c0_0] ?_; (with_reducible refine (api_File_48.calls _ _ l0_0 t541 _ ?side1 ?side2 A5.out).mono ?_); (case side1 => exact cl_ (Kd.C_below HR0_0.out HB.out)); (case side2 => exact HC0_0.out); rintro e w12 ⟨v542, rfl, ho0, hb⟩; refine ⟨_, rfl, ?_⟩; have HO543 := a_ (Kd.R_lower ho0 (below_size (bl_2 HB GE538 GE539))); replace BK538 := bB_ BK538 hb; replace BK539 := bB_ BK539 hb; replace HB := hB_ (bl_2 HB GE538 GE539) hb; (try clear hb); (try clear ho0); obtain ⟨Ao13, co13, eo13⟩ := Kd.R_slice HO543.out; subst eo13) | ((with_reducible refine gd_ 7 ?_); refine bx_ 7 #[.slice none 0 0, .bool false, .int .i64 0] 24 ?_; intro gb544 hg w14 hbox hb; replace HO543 := a_ (Kd.R_below (by refine rq_ ?_; exact HO543.out) hb); have BK544 := a_ (hbox); have GE544 := a_ (bs_2 hg HB GE538 GE539); replace HB := hB_ (bl_2 HB GE538 GE539) hb; have NB538_544 := nB_ hg BK538; have NB544_538 := nC_ hg BK538; replace BK538 := bB_ BK538 hb; have NB539_544 := nB_ hg BK539; have NB544_539 := nC_ hg BK539; replace BK539 := bB_ BK539 hb; clear hb hbox hg; have hnb15 := NB544_538.out; have hnc15 := NB538_544.out; have hnb16 := NB544_539.out; have hnc16 := NB539_544.out; obtain ⟨hcz17_0, hcz17_1, hcz17_2, hfz17_0, hfz17_1, hfz17_2⟩ := c3_ BK544))))
 go_loopg [24] k (fun kq v24 w' => ∃ (x24_1 : Int) (x545000_1 : List (S71)) (u545000 : Value), v24 = .int .i64 x24_1 ∧ Aside0 (disk_Crash.l0 kq l1 (t541.length : Int) x24_1 x545000_1 false (-1) = some (r1, r2, r3, r4)) ∧ Aside0 (kq ≤ k) ∧ Aside0 (Kd.R k71 71 w' w.heap.size (fun _ => True) u545000 x545000_1) ∧ Aside0 (w'.heap[gb538]? = some (.cells #[(.slice A0_0 l0_0.length c0_0), .bool a0_1, .int .i64 a0_2] 24 (0, 0))) ∧ Aside0 (w'.heap[gb539]? = some (.cells #[(.slice none 0 0), .bool false, .int .i64 0] 24 (0, 0))) ∧ Aside0 (w'.heap[gb544]? = some (.cells #[u545000, .bool false, .int .i64 (-1)] 24 (0, 0))) ∧ Aside0 (Below w.heap.size w w'))
 case atStart => exact ⟨(0), (t541), (.slice Ao13 t541.length co13), fz_, H', ⟨Nat.le_refl _⟩, ⟨by refine rq_ ?_; exact Kd.R_mono (Kd.R_far (p := ⟨gb544, 2, none⟩) (Kd.R_far (p := ⟨gb544, 1, none⟩) (Kd.R_far (p := ⟨gb544, 0, none⟩) (Kd.R_types HO543.out BK544.out (by decide)) (fun _ hk => hk.2) (.slice Ao13 t541.length co13)) (fun _ hk => hk.2) (.bool false)) (fun _ hk => hk.2) (.int .i64 (-1))) (fun _ hk => trivial)⟩, ⟨by refine bq_ ?_; refine blk_far ?_ NB538_544.out _; refine bq_ ?_; refine blk_far ?_ NB538_544.out _; refine bq_ ?_; refine blk_far ?_ NB538_544.out _; refine bq_ ?_; exact BK538.out⟩, ⟨by refine bq_ ?_; refine blk_far ?_ NB539_544.out _; refine bq_ ?_; refine blk_far ?_ NB539_544.out _; refine bq_ ?_; refine blk_far ?_ NB539_544.out _; refine bq_ ?_; exact BK539.out⟩, ⟨by refine bq_ ?_; refine blk_put (cs := #[.slice Ao13 t541.length co13, .bool false, .int .i64 0]) ?_ 2 _ rfl; refine bq_ ?_; refine blk_put (cs := #[.slice Ao13 t541.length co13, .bool false, .int .i64 0]) ?_ 1 _ rfl; refine bq_ ?_; refine blk_put (cs := #[.slice none 0 0, .bool false, .int .i64 0]) ?_ 0 _ rfl; refine bq_ ?_; exact BK544.out⟩, ⟨bl_3 HB GE538 GE539 GE544⟩⟩
 case round =>
  clear H'
  try clear c1
  try clear c2
  try clear p2
  try clear c3
  try clear c4
  try clear c4b0
  try clear c4b1
  try clear c8
  try clear c15
  try clear c16
  obtain ⟨x24_1, x545000_1, u545000, rfl, HA, HK1, HO_545000, BK538, BK539, BK544, HB⟩ := hrel
  cases gk with
  | zero => exact absurd HA.out (by simp [disk_Crash.l0])
  | succ k1 =>
   have H := HA.out
   clear HA
   simp only [disk_Crash.l0] at H
   by_cases c18 : x24_1 < (t541.length : Int)
   rotate_left
   ·rw [if_neg c18] at H
    have c18b0 : decide (x24_1 < (t541.length : Int)) = false := decide_eq_false c18
    clear c18
    simp only [Option.some.injEq, Prod.mk.injEq] at H
    obtain ⟨rfl, rfl, rfl, rfl⟩ := H
    have hnb32 := NB544_538.out
    have hnc32 := NB538_544.out
    have hnb33 := NB544_539.out
    have hnc33 := NB539_544.out
    obtain ⟨hcz34_0, hcz34_1, hcz34_2, hfz34_0, hfz34_1, hfz34_2⟩ := c3_ BK544
    obtain ⟨Ao35, co35, eo35⟩ := Kd.R_slice HO_545000.out
    subst eo35
    have hnb36 := NB539_538.out
    have hnc36 := NB538_539.out
    obtain ⟨hcz37_0, hcz37_1, hcz37_2, hfz37_0, hfz37_1, hfz37_2⟩ := c3_ BK539
    go_wp2
    repeat (go_step3; try (go_wp2))
    try dsimp only [Exit.noGoto]
    refine bodyPost_ret (results_ct rfl _ _ gb539 24 #[.slice Ao35 x545000_1.length co35, .bool false, .int .i64 (-1)] (0, 0) _ rfl (bp_0 BK539) Try.underlying24 rfl (by kernel_rfl)) rfl ?_
    exact ⟨_, fz_, by refine rq_ ?_; exact Kd.R_mono (Kd.R_far (p := ⟨gb539, 2, none⟩) (Kd.R_far (p := ⟨gb539, 1, none⟩) (Kd.R_far (p := ⟨gb539, 0, none⟩) (Kd.R_types HO_545000.out BK539.out (by decide)) (fun _ hk => hk.2) (.slice Ao35 x545000_1.length co35)) (fun _ hk => hk.2) (.bool false)) (fun _ hk => hk.2) (.int .i64 (-1))) (fun _ hk => trivial), bl_3 HB GE538 GE539 GE544⟩
   rw [if_pos c18] at H
   have c18b0 : decide (x24_1 < (t541.length : Int)) = true := decide_eq_true c18
   clear c18
   by_cases c19 : 0 ≤ x24_1
   rotate_left
   ·rw [if_neg c19] at H
    exact absurd H (by simp)
   rw [if_pos c19] at H
   have c19b0 : decide (0 ≤ x24_1) = true := decide_eq_true c19
   clear c19
   by_cases c20 : x24_1 < (x545000_1.length : Int)
   rotate_left
   ·rw [if_neg c20] at H
    exact absurd H (by simp)
   rw [if_pos c20] at H
   have c20b0 : decide (x24_1 < (x545000_1.length : Int)) = true := decide_eq_true c20
   clear c20
   by_cases c22 : 0 ≤ ((rd_T71 x545000_1 x24_1).f2)
   rotate_left
   ·rw [if_neg c22] at H
    exact absurd H (by simp)
   rw [if_pos c22] at H
   have c22b0 := eq_true c22
   have c22b1 : decide (0 ≤ ((rd_T71 x545000_1 x24_1).f2)) = true := decide_eq_true c22
   clear c22
   by_cases c23 : ((rd_T71 x545000_1 x24_1).f2) ≤ (((rd_T71 x545000_1 x24_1).f1).size : Int)
   rotate_left
   ·rw [if_neg c23] at H
    exact absurd H (by simp)
   rw [if_pos c23] at H
   have c23b0 := eq_true c23
   have c23b1 : decide (((rd_T71 x545000_1 x24_1).f2) ≤ (((rd_T71 x545000_1 x24_1).f1).size : Int)) = true := decide_eq_true c23
   clear c23
   obtain ⟨y549, hy549⟩ : ∃ y_ : List (S71), y_ = (x545000_1.set (x24_1 : Int).toNat (⟨(rd_T71 x545000_1 x24_1).f0, ((rd_T71 x545000_1 x24_1).f1).extract 0 (((rd_T71 x545000_1 x24_1).f2) : Int).toNat, (rd_T71 x545000_1 x24_1).f2⟩ : S71)) := ⟨_, rfl⟩
   replace H : (if x24_1 ≥ (l1.length : Int) then (disk_Crash.l0 k1 l1 (t541.length : Int) (wrap64 (x24_1 + 1)) y549 false (-1)) else (none)) = some (r1, r2, r3, r4) := by first | (rw [hy549]; with_reducible exact H) | (have H2_ := (Option.bind_some _ _).symm.trans H; rw [hy549]; with_reducible exact H2_) | (have H2_ := (Option.bind_some _ _).symm.trans H; with_reducible exact H2_) | with_reducible exact H | (rw [hy549]; exact H) | exact H
   have Ny549 := a_ hy549
   clear hy549
   by_cases c25 : x24_1 ≥ (l1.length : Int)
   rotate_left
   ·rw [if_neg c25] at H
    exact absurd H (by simp)
   rw [if_pos c25] at H
   have c25b0 : decide ((l1.length : Int) ≤ x24_1) = true := decide_eq_true c25
   clear c25
   have H' := a_ H
   clear H
   have hnb26 := NB544_538.out
   have hnc26 := NB538_544.out
   have hnb27 := NB544_539.out
   have hnc27 := NB539_544.out
   obtain ⟨hcz28_0, hcz28_1, hcz28_2, hfz28_0, hfz28_1, hfz28_2⟩ := c3_ BK544
   have p21 : 0 ≤ (x24_1 : Int) := od_
   have q21 : (x24_1 : Int) < ((x545000_1.length : Int) : Int) := od_
   obtain ⟨go21, co21, eo21, gb21, gl21, cl21, HG21⟩ := Kd.R_form HO_545000.out (by omega)
   (first | cases eo21 | (injection eo21 with ea_ en_ ec_; (first | subst ea_ | (injection ea_ with ea_; subst ea_)); subst ec_; clear en_))
   have GB21 := a_ gb21
   have GG21 := a_ HG21
   clear gb21 gl21 HG21
   obtain ⟨ce21, hcl21, hM21, hcc21, hfr21⟩ := Kd.R_elem HO_545000.out z71 (x24_1 : Int) p21 q21
   obtain rfl := k71_openM hM21
   have hx21_0 : wr.cell? ⟨go21, (x24_1 : Int).toNat * 3, none⟩ = some (.string ((rd_T71 x545000_1 x24_1).f0)) := hcc21 0 _ rfl
   have hx21_1 : wr.cell? ⟨go21, (x24_1 : Int).toNat * 3 + 1, none⟩ = some (.string ((rd_T71 x545000_1 x24_1).f1)) := hcc21 1 _ rfl
   have hx21_2 : wr.cell? ⟨go21, (x24_1 : Int).toNat * 3 + 2, none⟩ = some (.int .i64 ((rd_T71 x545000_1 x24_1).f2)) := hcc21 2 _ rfl
   have hf21_0 : wr.frozen? ⟨go21, (x24_1 : Int).toNat * 3, none⟩ = false := hfr21 0
   have hf21_1 : wr.frozen? ⟨go21, (x24_1 : Int).toNat * 3 + 1, none⟩ = false := hfr21 1
   have hf21_2 : wr.frozen? ⟨go21, (x24_1 : Int).toNat * 3 + 2, none⟩ = false := hfr21 2
   clear hcl21 hcc21 hfr21 hM21
   replace p21 := eq_true p21
   replace q21 := eq_true q21
   try go_wp2
   have n0_ := a_ (Kd.R_drew HO_545000.out)
   have n1_ := a_ (blk_drew BK538.out)
   have n2_ := a_ (blk_drew BK539.out)
   have n3_ := a_ (blk_drew BK544.out)
   have n4_ := a_ (below_drew1 HB.out)
   clear HO_545000
   clear BK538
   clear BK539
   clear BK544
   clear HB
   have HO_545000 := n0_
   have BK538 := n1_
   have BK539 := n2_
   have BK544 := n3_
   have HB := n4_
   clear n0_ n1_ n2_ n3_ n4_
   have p545 : 0 ≤ (x24_1 : Int) := od_
   have q545 : x24_1 < (x545000_1.length : Int) := od_
   obtain ⟨ad545, e545, hx545_0, hx545_1, hx545_2⟩ := at_T71 (Kd.R_reads' HO_545000.out).2.2 x24_1 p545 q545
   obtain rfl : (⟨go21, 0, none⟩ : Addr) = ad545 := (by injection e545)
   (first | simp only [add_plain] at hx545_0 | simp only [add_at] at hx545_0 | simp only [Addr.add, Nat.zero_add] at hx545_0 | skip)
   (first | simp only [add_plain] at hx545_1 | simp only [add_at] at hx545_1 | simp only [Addr.add, Nat.zero_add] at hx545_1 | skip)
   (first | simp only [add_plain] at hx545_2 | simp only [add_at] at hx545_2 | simp only [Addr.add, Nat.zero_add] at hx545_2 | skip)
   replace p545 := eq_true p545
   replace q545 := eq_true q545
   have p546 : 0 ≤ (x24_1 : Int) := od_
   have q546 : x24_1 < (x545000_1.length : Int) := od_
   obtain ⟨ad546, e546, hx546_0, hx546_1, hx546_2⟩ := at_T71 (Kd.R_reads' HO_545000.out).2.2 x24_1 p546 q546
   obtain rfl : (⟨go21, 0, none⟩ : Addr) = ad546 := (by injection e546)
   (first | simp only [add_plain] at hx546_0 | simp only [add_at] at hx546_0 | simp only [Addr.add, Nat.zero_add] at hx546_0 | skip)
   (first | simp only [add_plain] at hx546_1 | simp only [add_at] at hx546_1 | simp only [Addr.add, Nat.zero_add] at hx546_1 | skip)
   (first | simp only [add_plain] at hx546_2 | simp only [add_at] at hx546_2 | simp only [Addr.add, Nat.zero_add] at hx546_2 | skip)
   replace p546 := eq_true p546
   replace q546 := eq_true q546
   refine start_ (n := 11) (S := fun w' => w'.cell? ⟨go21, (x24_1).toNat * 3, none⟩ = some (.string ((rd_T71 x545000_1 x24_1).f0)) ∧ w'.cell? ⟨go21, (x24_1).toNat * 3 + 1, none⟩ = some (.string ((rd_T71 x545000_1 x24_1).f1)) ∧ w'.cell? ⟨go21, (x24_1).toNat * 3 + 2, none⟩ = some (.int .i64 ((rd_T71 x545000_1 x24_1).f2)) ∧ w'.cell? ⟨go21, (x24_1).toNat * 3, none⟩ = some (.string ((rd_T71 x545000_1 x24_1).f0)) ∧ w'.cell? ⟨go21, (x24_1).toNat * 3 + 1, none⟩ = some (.string ((rd_T71 x545000_1 x24_1).f1)) ∧ w'.cell? ⟨go21, (x24_1).toNat * 3 + 2, none⟩ = some (.int .i64 ((rd_T71 x545000_1 x24_1).f2))) (ds := []) #[false, false, false, false, false, false, false, false, false, false, false] (by kernel_rfl) rfl rfl ⟨hx545_0, hx545_1, hx545_2, hx546_0, hx546_1, hx546_2⟩ (fun hHeld => ?_); refine with_tabW disk_Crash.tab9 disk_Crash.bits9 (fun HT_ HW_ => ?_)
   generalize wr.drew = w29 at HO_545000 BK538 BK539 BK544 HB hx545_0 hx545_1 hx545_2 hx546_0 hx546_1 hx546_2 hHeld ⊢
   refine pu_ HT_ 0 (some 31) ?_
   refine pu_ HT_ 1 (some 32) ?_
   refine pu_ HT_ 2 (some 33) ?_
   refine pu_ HT_ 5 (some 36) ?_
   refine pu_ HT_ 6 (some 37) ?_
   refine pu_ HT_ 7 (some 38) ?_
   refine take_ (i := 3) (N := some 34) (v := ?_) (a' := ?_) #[true, true, true, true, false, true, true, true, false, false, false] rfl rfl (take_ofW HT_.out HW_.out (by kernel_rfl)) (fun _ _ _ h => h) (Or.inl ⟨by rfl, ?_⟩) hHeld ?_ ?_
   rotate_left
   ·rintro w' ⟨s0, s1, s2, s3, s4, s5⟩
    go_simp
    with_reducible rfl
   rotate_left
   ·exact ap_
   refine pu_ HT_ 4 (some 35) ?_
   refine take_ (i := 8) (N := some 39) (v := ?_) (a' := ?_) #[true, true, true, true, true, true, true, true, true, false, false] rfl rfl (take_ofW HT_.out HW_.out (by kernel_rfl)) (fun _ _ _ h => h) (Or.inl ⟨by rfl, ?_⟩) hHeld ?_ ?_
   rotate_left
   ·rintro w' ⟨s0, s1, s2, s3, s4, s5⟩
    go_simp
    with_reducible rfl
   rotate_left
   ·exact ap_
   refine pu_ HT_ 9 (some 40) ?_
   refine pu_ HT_ 10 (some 10) ?_
   refine done_ (done_of HT_.out (by kernel_rfl)) ?_
   try go_wp2
   have n0_ := a_ (Kd.R_drew HO_545000.out)
   have n1_ := a_ (blk_drew BK538.out)
   have n2_ := a_ (blk_drew BK539.out)
   have n3_ := a_ (blk_drew BK544.out)
   have n4_ := a_ (below_drew1 HB.out)
   clear HO_545000
   clear BK538
   clear BK539
   clear BK544
   clear HB
   have HO_545000 := n0_
   have BK538 := n1_
   have BK539 := n2_
   have BK544 := n3_
   have HB := n4_
   clear n0_ n1_ n2_ n3_ n4_
   have p547 : 0 ≤ (x24_1 : Int) := od_
   have q547 : x24_1 < (x545000_1.length : Int) := od_
   obtain ⟨ad547, e547, hx547_0, hx547_1, hx547_2⟩ := at_T71 (Kd.R_reads' HO_545000.out).2.2 x24_1 p547 q547
   obtain rfl : (⟨go21, 0, none⟩ : Addr) = ad547 := (by injection e547)
   (first | simp only [add_plain] at hx547_0 | simp only [add_at] at hx547_0 | simp only [Addr.add, Nat.zero_add] at hx547_0 | skip)
   (first | simp only [add_plain] at hx547_1 | simp only [add_at] at hx547_1 | simp only [Addr.add, Nat.zero_add] at hx547_1 | skip)
   (first | simp only [add_plain] at hx547_2 | simp only [add_at] at hx547_2 | simp only [Addr.add, Nat.zero_add] at hx547_2 | skip)
   replace p547 := eq_true p547
   replace q547 := eq_true q547
   have p548 : 0 ≤ (x24_1 : Int) := od_
   have q548 : x24_1 < (x545000_1.length : Int) := od_
   obtain ⟨ad548, e548, hx548_0, hx548_1, hx548_2⟩ := at_T71 (Kd.R_reads' HO_545000.out).2.2 x24_1 p548 q548
   obtain rfl : (⟨go21, 0, none⟩ : Addr) = ad548 := (by injection e548)
   (first | simp only [add_plain] at hx548_0 | simp only [add_at] at hx548_0 | simp only [Addr.add, Nat.zero_add] at hx548_0 | skip)
   (first | simp only [add_plain] at hx548_1 | simp only [add_at] at hx548_1 | simp only [Addr.add, Nat.zero_add] at hx548_1 | skip)
   (first | simp only [add_plain] at hx548_2 | simp only [add_at] at hx548_2 | simp only [Addr.add, Nat.zero_add] at hx548_2 | skip)
   replace p548 := eq_true p548
   replace q548 := eq_true q548
   have p24 : 0 ≤ (x24_1 : Int) := od_
   have q24 : (x24_1 : Int) < ((x545000_1.length : Int) : Int) := od_
   obtain ⟨ce24, hcl24, hM24, hcc24, hfr24⟩ := Kd.R_elem HO_545000.out z71 (x24_1 : Int) p24 q24
   obtain rfl := k71_openM hM24
   have hx24_0 : World.cell? _ ⟨go21, (x24_1 : Int).toNat * 3, none⟩ = some (.string ((rd_T71 x545000_1 x24_1).f0)) := hcc24 0 _ rfl
   have hx24_1 : World.cell? _ ⟨go21, (x24_1 : Int).toNat * 3 + 1, none⟩ = some (.string ((rd_T71 x545000_1 x24_1).f1)) := hcc24 1 _ rfl
   have hx24_2 : World.cell? _ ⟨go21, (x24_1 : Int).toNat * 3 + 2, none⟩ = some (.int .i64 ((rd_T71 x545000_1 x24_1).f2)) := hcc24 2 _ rfl
   have hf24_0 : World.frozen? _ ⟨go21, (x24_1 : Int).toNat * 3, none⟩ = false := hfr24 0
   have hf24_1 : World.frozen? _ ⟨go21, (x24_1 : Int).toNat * 3 + 1, none⟩ = false := hfr24 1
   have hf24_2 : World.frozen? _ ⟨go21, (x24_1 : Int).toNat * 3 + 2, none⟩ = false := hfr24 2
   clear hcl24 hcc24 hfr24 hM24
   replace p24 := eq_true p24
   replace q24 := eq_true q24
   obtain ⟨ce31, hcl31, hM31, hcc31, hfr31⟩ := Kd.R_elem HO_545000.out z71 (x24_1 : Int) od_ (by have h_ : (x24_1 : Int) < ((x545000_1.length : Int) : Int) := od_; first | exact h_ | (have e_ := (Kd.R_reads' HO_545000.out).1; omega) | simpa using h_)
   obtain rfl := k71_openM hM31
   have HP31 := (Kd.R_seg HO_545000.out (x24_1 : Int) od_ (by have h_ : (x24_1 : Int) < ((x545000_1.length : Int) : Int) := od_; first | exact h_ | (have e_ := (Kd.R_reads' HO_545000.out).1; omega) | simpa using h_) (seg := [.string (((rd_T71 x545000_1 x24_1).f1).extract 0 (((rd_T71 x545000_1 x24_1).f2) : Int).toNat)]) (j := 1) hcl31 hcc31 (show 2 ≤ 3 from by decide) (x' := (⟨(rd_T71 x545000_1 x24_1).f0, ((rd_T71 x545000_1 x24_1).f1).extract 0 (((rd_T71 x545000_1 x24_1).f2) : Int).toNat, (rd_T71 x545000_1 x24_1).f2⟩ : S71)) (k71_mkM _ _ _ (⟨(rd_T71 x545000_1 x24_1).f0, ((rd_T71 x545000_1 x24_1).f1).extract 0 (((rd_T71 x545000_1 x24_1).f2) : Int).toNat, (rd_T71 x545000_1 x24_1).f2⟩ : S71) ) (fun _ hk => hk)).1
   rw [← Ny549.out] at HP31
   have HQ31 := a_ HP31
   clear hcl31 hcc31 hfr31 hM31 HP31
   refine start_ (n := 13) (S := fun w' => w'.cell? ⟨go21, (x24_1).toNat * 3, none⟩ = some (.string ((rd_T71 x545000_1 x24_1).f0)) ∧ w'.cell? ⟨go21, (x24_1).toNat * 3 + 1, none⟩ = some (.string ((rd_T71 x545000_1 x24_1).f1)) ∧ w'.cell? ⟨go21, (x24_1).toNat * 3 + 2, none⟩ = some (.int .i64 ((rd_T71 x545000_1 x24_1).f2)) ∧ w'.cell? ⟨go21, (x24_1).toNat * 3, none⟩ = some (.string ((rd_T71 x545000_1 x24_1).f0)) ∧ w'.cell? ⟨go21, (x24_1).toNat * 3 + 1, none⟩ = some (.string ((rd_T71 x545000_1 x24_1).f1)) ∧ w'.cell? ⟨go21, (x24_1).toNat * 3 + 2, none⟩ = some (.int .i64 ((rd_T71 x545000_1 x24_1).f2))) (ds := [12]) #[false, false, false, false, false, false, false, false, false, false, false, false, false] (by kernel_rfl) rfl rfl ⟨hx547_0, hx547_1, hx547_2, hx548_0, hx548_1, hx548_2⟩ (fun hHeld => ?_); refine with_tabW disk_Crash.tab10 disk_Crash.bits10 (fun HT_ HW_ => ?_)
   generalize w29.drew = w30 at HO_545000 BK538 BK539 BK544 HB HQ31 hf24_0 hf24_1 hf24_2 hx24_0 hx24_1 hx24_2 hx547_0 hx547_1 hx547_2 hx548_0 hx548_1 hx548_2 hHeld ⊢
   refine pu_ HT_ 0 (some 41) ?_
   refine pu_ HT_ 1 (some 42) ?_
   refine pu_ HT_ 2 (some 43) ?_
   refine pu_ HT_ 3 (some 44) ?_
   refine pu_ HT_ 5 (some 46) ?_
   refine pu_ HT_ 6 (some 47) ?_
   refine pu_ HT_ 7 (some 48) ?_
   refine take_ (i := 4) (N := some 45) (v := ?_) (a' := ?_) #[true, true, true, true, true, true, true, true, false, false, false, false, false] rfl rfl (take_ofW HT_.out HW_.out (by kernel_rfl)) (fun _ _ _ h => h) (Or.inl ⟨by rfl, ?_⟩) hHeld ?_ ?_
   rotate_left
   ·rintro w' ⟨s0, s1, s2, s3, s4, s5⟩
    go_simp
    with_reducible rfl
   rotate_left
   ·exact ap_
   refine take_ (i := 8) (N := some 49) (v := ?_) (a' := ?_) #[true, true, true, true, true, true, true, true, true, false, false, false, false] rfl rfl (take_ofW HT_.out HW_.out (by kernel_rfl)) (fun _ _ _ h => h) (Or.inl ⟨by rfl, ?_⟩) hHeld ?_ ?_
   rotate_left
   ·rintro w' ⟨s0, s1, s2, s3, s4, s5⟩
    go_simp
    with_reducible rfl
   rotate_left
   ·exact ap_
   refine pu_ HT_ 9 (some 50) ?_
   refine pu_ HT_ 10 (some 51) ?_
   refine pu_ HT_ 11 (some 52) ?_
   refine last_ (i := 12) (N := none) #[true, true, true, true, true, true, true, true, true, true, true, true, true] rfl rfl (one_of HT_.out (by kernel_rfl)) (by decide) (fun K hK => ?_)
   refine skip_ (w1 := ?_) (by rfl) rfl ?_ ?_
   rotate_left
   ·go_simp
    rfl
   refine hK.out _ _ ?_
   clear hK K
   refine done_ (done_of HT_.out (by kernel_rfl)) ?_
   try go_wp2
   go_roundg k1
   case measure => have := HK1.out; omega
   case rel => exact ⟨(wrap64 (x24_1 + 1)), (y549), (.slice (some ⟨go21, 0, none⟩) x545000_1.length co21), fz_, H', ⟨by have := HK1.out; omega⟩, ⟨by refine rq_ ?_; exact HQ31.out⟩, ⟨by refine bq_ ?_; refine blk_far ?_ (by have h_ := Kd.R_ne HO_545000.out BK538.out (by decide); intro e_; exact h_ (by rw [e_]; rfl)) _; refine bq_ ?_; exact BK538.out⟩, ⟨by refine bq_ ?_; refine blk_far ?_ (by have h_ := Kd.R_ne HO_545000.out BK539.out (by decide); intro e_; exact h_ (by rw [e_]; rfl)) _; refine bq_ ?_; exact BK539.out⟩, ⟨by refine bq_ ?_; refine blk_far ?_ (by have h_ := Kd.R_ne HO_545000.out BK544.out (by decide); intro e_; exact h_ (by rw [e_]; rfl)) _; refine bq_ ?_; exact BK544.out⟩, ⟨bl_4 HB GB21 GE538 GE539 GE544⟩⟩
/-! ### gafferlaw04_lives: function 19 -/
def gafferlaw04_lives.f (k : Nat)  : Option (Bool) := (hard_Load.f k ([] : List (S71)) false (-1)).bind fun bt550 => ((hard_Save.f k ([] : List (S71)) false (-1) 7 3).bind fun bt554 => ((disk_Crash.f k bt554.1 bt554.2.1 bt554.2.2.1 ([] : List Int)).bind fun bt561 => ((hard_Load.f k bt561.1 bt561.2.1 bt561.2.2.1).bind fun bt567 => (if (bt550.1 == 0 && (bt550.2.1 == 0)) = true then (if bt550.2.2 = 0 then (if bt554.2.2.2 = 0 then (if bt561.2.2.2 = 0 then (if bt567.2.2 = 0 then (if (bt567.1 == 7 && (bt567.2.1 == 3)) = true then ((hard_Check.f 0 8).bind fun t571 => (some (t571 == 1))) else (some false)) else (some false)) else (some false)) else (some false)) else (some false)) else (some false)))))
theorem gafferlaw04_lives.mono : ∀ k, LeO (gafferlaw04_lives.f k ) (gafferlaw04_lives.f (k + 1) ) := by
 intro  k
 unfold gafferlaw04_lives.f
 repeat' with_reducible first | apply disk_Crash.mono | apply hard_Load.mono | apply hard_Save.mono | apply LeO.refl | apply LeO.none | apply LeO.ite | refine LeO.bind ?_ (fun _ => ?_)
theorem gafferlaw04_lives.only (k : Nat) (r : Bool) (h : gafferlaw04_lives.f k = some r) : r = true := by
 have h1 : gafferlaw04_lives.f (k + 200) = some r := at_rounds (fun k => gafferlaw04_lives.mono k) (Nat.le_add_right _ _) h
 have h2 : gafferlaw04_lives.f (k + 200) = some true := at_rounds (g := fun k => gafferlaw04_lives.f k) (fun k => gafferlaw04_lives.mono k) (Nat.le_add_left 200 k) (show gafferlaw04_lives.f 200 = some true by decide +kernel)
 rw [h1] at h2
 injection h2
theorem gafferlaw04_lives.calls (k : Nat)  (r : Bool) (w : World) (h : gafferlaw04_lives.f k  = some r) :
  Calls Try.prog 19 #[] w fun e w' => e = .returned (.bool r) ∧ Below w.heap.size w w' := by
 have hr : r = true := gafferlaw04_lives.only k r h
 have hu24 := Try.underlying24
 have hu27 := Try.underlying27
 have HB := a_ (Below.refl w.heap.size w)
 have H : ((hard_Load.f k ([] : List (S71)) false (-1)).bind fun bt550 => ((hard_Save.f k ([] : List (S71)) false (-1) 7 3).bind fun bt554 => ((disk_Crash.f k bt554.1 bt554.2.1 bt554.2.2.1 ([] : List Int)).bind fun bt561 => ((hard_Load.f k bt561.1 bt561.2.1 bt561.2.2.1).bind fun bt567 => (if (bt550.1 == 0 && (bt550.2.1 == 0)) = true then (if bt550.2.2 = 0 then (if bt554.2.2.2 = 0 then (if bt561.2.2.2 = 0 then (if bt567.2.2 = 0 then (if (bt567.1 == 7 && (bt567.2.1 == 3)) = true then ((hard_Check.f 0 8).bind fun t571 => (some (t571 == 1))) else (some false)) else (some false)) else (some false)) else (some false)) else (some false)) else (some false)))))) = some r := h
 clear h
 obtain ⟨⟨t550, t551, t552⟩, A10, H⟩ := Option.bind_eq_some_iff.mp H
 try dsimp only at H
 have A1 := a_ A10
 clear A10
 obtain ⟨⟨t554, t557, t558, t559⟩, A20, H⟩ := Option.bind_eq_some_iff.mp H
 try dsimp only at H
 have A2 := a_ A20
 clear A20
 obtain ⟨⟨t561, t564, t565, t566⟩, A30, H⟩ := Option.bind_eq_some_iff.mp H
 try dsimp only at H
 have A3 := a_ A30
 clear A30
 obtain ⟨⟨t567, t568, t569⟩, A40, H⟩ := Option.bind_eq_some_iff.mp H
 try dsimp only at H
 have A4 := a_ A40
 clear A40
 by_cases c5 : (t550 == 0 && (t551 == 0)) = true
 rotate_left
 ·rw [if_neg c5] at H
  have c5b0 : (t550 == 0 && (t551 == 0)) = false := by simpa using c5
  (try (have c5b1 : decide (t550 = 0 && (t551 == 0)) = false := by simpa using c5))
  (try (have c5b2 : (t550 == 0 && (t551 == 0)) = false := by simpa using c5))
  (try (have c5b3 : ¬ (t550 = 0 && (t551 == 0)) := by simpa using c5))
  clear c5
  exact absurd (H.trans (congrArg some hr)) (by simp)


 rw [if_pos c5] at H
 have c5b0 : (t550 == 0 && (t551 == 0)) = true := c5
 (try (have c5b1 : decide (t550 = 0 && (t551 == 0)) = true := by simpa using c5))
 (try (have c5b2 : (t550 == 0 && (t551 == 0)) = true := by simpa using c5))
 clear c5
 by_cases c6 : t552 = 0
 rotate_left
 ·rw [if_neg c6] at H
  have c6b0 : (t552 == 0) = false := beq_eq_false_iff_ne.mpr c6
  have c6b1 : (t552 != 0) = true := bne_iff_ne.mpr c6
  exact absurd (H.trans (congrArg some hr)) (by simp)
 rw [if_pos c6] at H
 have c6b0 : (t552 == 0) = true := beq_iff_eq.mpr c6
 have c6b1 : (t552 != 0) = false := bne_eq_false_iff_eq.mpr c6
 clear c6
 by_cases c7 : t559 = 0
 rotate_left
 ·rw [if_neg c7] at H
  have c7b0 : (t559 == 0) = false := beq_eq_false_iff_ne.mpr c7
  have c7b1 : (t559 != 0) = true := bne_iff_ne.mpr c7
  exact absurd (H.trans (congrArg some hr)) (by simp)
 rw [if_pos c7] at H
 have c7b0 : (t559 == 0) = true := beq_iff_eq.mpr c7
 have c7b1 : (t559 != 0) = false := bne_eq_false_iff_eq.mpr c7
 clear c7
 by_cases c8 : t566 = 0
 rotate_left
 ·rw [if_neg c8] at H
  have c8b0 : (t566 == 0) = false := beq_eq_false_iff_ne.mpr c8
  have c8b1 : (t566 != 0) = true := bne_iff_ne.mpr c8
  exact absurd (H.trans (congrArg some hr)) (by simp)
 rw [if_pos c8] at H
 have c8b0 : (t566 == 0) = true := beq_iff_eq.mpr c8
 have c8b1 : (t566 != 0) = false := bne_eq_false_iff_eq.mpr c8
 clear c8
 by_cases c9 : t569 = 0
 rotate_left
 ·rw [if_neg c9] at H
  have c9b0 : (t569 == 0) = false := beq_eq_false_iff_ne.mpr c9
  have c9b1 : (t569 != 0) = true := bne_iff_ne.mpr c9
  exact absurd (H.trans (congrArg some hr)) (by simp)
 rw [if_pos c9] at H
 have c9b0 : (t569 == 0) = true := beq_iff_eq.mpr c9
 have c9b1 : (t569 != 0) = false := bne_eq_false_iff_eq.mpr c9
 clear c9
 by_cases c10 : (t567 == 7 && (t568 == 3)) = true
 rotate_left
 ·rw [if_neg c10] at H
  have c10b0 : (t567 == 7 && (t568 == 3)) = false := by simpa using c10
  (try (have c10b1 : decide (t567 = 7 && (t568 == 3)) = false := by simpa using c10))
  (try (have c10b2 : (t567 == 7 && (t568 == 3)) = false := by simpa using c10))
  (try (have c10b3 : ¬ (t567 = 7 && (t568 == 3)) := by simpa using c10))
  clear c10
  exact absurd (H.trans (congrArg some hr)) (by simp)
 rw [if_pos c10] at H
 have c10b0 : (t567 == 7 && (t568 == 3)) = true := c10
 (try (have c10b1 : decide (t567 = 7 && (t568 == 3)) = true := by simpa using c10))
 (try (have c10b2 : (t567 == 7 && (t568 == 3)) = true := by simpa using c10))
 clear c10
 obtain ⟨t571, A110, H⟩ := Option.bind_eq_some_iff.mp H
 try dsimp only at H
 have A11 := a_ A110
 clear A110
 obtain rfl := Option.some.inj H
 go_enter Try.func19, Try.ntmps19
 go_wp2_with (first | ((with_reducible refine gk_ 15 ?_); refine gl_ (some 10) Try.func15 #[.agg #[.slice none 0 0, .bool false, .int .i64 (-1)]] ?_; (refine (hard_Load.calls k _ _ ([] : List (S71)) false (-1) t550 t551 t552 _ ?side1 ?side2 A1.out).mono ?_); (case side1 => exact Kd.C_nil _ _); (case side2 => exact Nat.le_refl _); rintro e w12 ⟨rfl, hb⟩; (try clear A1); refine ⟨_, rfl, ?_⟩; replace HB := hB_ (bl_ HB) hb; (try clear hb)) | ((with_reducible refine gd_ 1 ?_); refine bx_ 1 #[.int .u64 0, .int .i64 0] 27 ?_; intro gb553 hg w13 hbox hb; have BK553 := a_ (hbox); have GE553 := a_ (bs_0 hg HB); replace HB := hB_ (bl_ HB) hb; clear hb hbox hg; obtain ⟨hcz14_0, hcz14_1, hfz14_0, hfz14_1⟩ := c2_ BK553) | ((with_reducible refine gk_ 17 ?_); refine gl_ (some 16) Try.func17 #[.agg #[.slice none 0 0, .bool false, .int .i64 (-1)], .agg #[.int .u64 7, .int .i64 3]] ?_; (refine (hard_Save.calls k _ _ ([] : List (S71)) false (-1) 7 3 t554 t557 t558 t559 _ ?side1 ?side2 A2.out).mono ?_); (case side1 => exact Kd.C_nil _ _); (case side2 => exact Nat.le_refl _); rintro e w15 ⟨v555, rfl, ho0, hb⟩; (try clear A2); refine ⟨_, rfl, ?_⟩; have HO556 := a_ (Kd.R_lower ho0 (below_size (bl_1 HB GE553))); replace BK553 := a_ (blk_below (g := gb553) (o := .cells #[.int .u64 t550, .int .i64 t551] 27 (0, 0)) (bp_0 BK553) hb); replace HB := hB_ (bl_1 HB GE553) hb; (try clear hb); (try clear ho0)) | ((with_reducible refine gd_ 3 ?_); refine bx_ 3 #[.slice none 0 0, .bool false, .int .i64 0] 24 ?_; intro gb560 hg w16 hbox hb; replace HO556 := a_ (Kd.R_below (by refine rq_ ?_; exact HO556.out) hb); have BK560 := a_ (hbox); have GE560 := a_ (bs_1 hg HB GE553); replace HB := hB_ (bl_1 HB GE553) hb; have NB553_560 := nB_ hg BK553; have NB560_553 := nC_ hg BK553; replace BK553 := bB_ BK553 hb; clear hb hbox hg; obtain ⟨Ao17, co17, eo17⟩ := Kd.R_slice HO556.out; subst eo17; have hnb18 := NB560_553.out; have hnc18 := NB553_560.out; obtain ⟨hcz19_0, hcz19_1, hcz19_2, hfz19_0, hfz19_1, hfz19_2⟩ := c3_ BK560) | ((with_reducible refine gk_ 23 ?_); refine gl_ (some 21) Try.func23 #[.agg #[.slice Ao17 t554.length co17, .bool t557, .int .i64 t558], .slice none 0 0] ?_; (refine (disk_Crash.calls k _ _ t554 t557 t558 _ _ ([] : List Int) t561 t564 t565 t566 _ ?side1 ?side2 ?side3 ?side4 A3.out).mono ?_); (case side1 => refine (Kd.R_reads' (e := 71) (base := w.heap.size) (ok := fun k_ => True) (n := t554.length) (c := co17) ?_).2.2; exact (by refine rq_ ?_; exact (Kd.R_mono (Kd.R_far (p := ⟨gb560, 2, none⟩) (Kd.R_far (p := ⟨gb560, 1, none⟩) (Kd.R_far (p := ⟨gb560, 0, none⟩) (Kd.R_types HO556.out BK560.out (by decide)) (fun _ hk => hk.2) (.slice Ao17 t554.length co17)) (fun _ hk => hk.2) (.bool t557)) (fun _ hk => hk.2) (.int .i64 t558)) (fun _ h_ => h_.1)))); (case side2 => exact (Kd.R_reads' HO556.out).2.1); (case side3 => exact Kd.C_nil _ _); (case side4 => exact Nat.le_refl _); rintro e w20 ⟨v562, rfl, ho0, hb⟩; (try clear A3); refine ⟨_, rfl, ?_⟩; have HO563 := a_ (Kd.R_lower (Kd.R_new' ho0 (Kd.R_lt (by refine rq_ ?_; exact (Kd.R_mono (Kd.R_far (p := ⟨gb560, 2, none⟩) (Kd.R_far (p := ⟨gb560, 1, none⟩) (Kd.R_far (p := ⟨gb560, 0, none⟩) (Kd.R_types HO556.out BK560.out (by decide)) (fun _ hk => hk.2) (.slice Ao17 t554.length co17)) (fun _ hk => hk.2) (.bool t557)) (fun _ hk => hk.2) (.int .i64 t558)) (fun _ h_ => h_.1))))) (below_size (bl_2 HB GE553 GE560))); replace HO556 := a_ (Kd.R_elder' (by refine rq_ ?_; exact (Kd.R_mono (Kd.R_far (p := ⟨gb560, 2, none⟩) (Kd.R_far (p := ⟨gb560, 1, none⟩) (Kd.R_far (p := ⟨gb560, 0, none⟩) (Kd.R_types HO556.out BK560.out (by decide)) (fun _ hk => hk.2) (.slice Ao17 t554.length co17)) (fun _ hk => hk.2) (.bool t557)) (fun _ hk => hk.2) (.int .i64 t558)) (fun _ h_ => h_.1))) (Kd.R_base ho0) hb); replace BK553 := a_ (blk_below (g := gb553) (o := .cells #[.int .u64 t550, .int .i64 t551] 27 (0, 0)) (bp_1 BK553 NB553_560) hb); replace BK560 := a_ (blk_below (g := gb560) (o := .cells #[.slice Ao17 t554.length co17, .bool t557, .int .i64 t558] 24 (0, 0)) (bp_0 BK560) hb); replace HB := hB_ (bl_2 HB GE553 GE560) hb; (try clear hb); (try clear ho0); obtain ⟨Ao21, co21, eo21⟩ := Kd.R_slice HO563.out; subst eo21; obtain ⟨hcz22_0, hcz22_1, hcz22_2, hfz22_0, hfz22_1, hfz22_2⟩ := c3_ BK560) | ((with_reducible refine gk_ 15 ?_); refine gl_ (some 26) Try.func15 #[.agg #[.slice Ao21 t561.length co21, .bool t564, .int .i64 t565]] ?_; (with_reducible refine (hard_Load.calls k _ _ t561 t564 t565 t567 t568 t569 _ ?side1 ?side2 A4.out).mono ?_); (case side1 => refine (Kd.R_reads' (e := 71) (base := w.heap.size) (ok := fun k_ => (True ∧ some k_ ≠ (.slice Ao17 t554.length co17 : Value).ownBlock)) (n := t561.length) (c := co21) ?_).2.2; exact (by refine rq_ ?_; exact (Kd.R_mono (Kd.R_far (p := ⟨gb560, 2, none⟩) (Kd.R_far (p := ⟨gb560, 1, none⟩) (Kd.R_far (p := ⟨gb560, 0, none⟩) (Kd.R_types HO563.out BK560.out (by decide)) (fun _ hk => hk.2) (.slice Ao21 t561.length co21)) (fun _ hk => hk.2) (.bool t564)) (fun _ hk => hk.2) (.int .i64 t565)) (fun _ h_ => h_.1)))); (case side2 => exact (Kd.R_reads' HO563.out).2.1); rintro e w23 ⟨rfl, hb⟩; refine ⟨_, rfl, ?_⟩; replace HO556 := a_ (Kd.R_below (by refine rq_ ?_; exact (Kd.R_mono (Kd.R_far (p := ⟨gb560, 2, none⟩) (Kd.R_far (p := ⟨gb560, 1, none⟩) (Kd.R_far (p := ⟨gb560, 0, none⟩) (Kd.R_types HO556.out BK560.out (by decide)) (fun _ hk => hk.2) (.slice Ao21 t561.length co21)) (fun _ hk => hk.2) (.bool t564)) (fun _ hk => hk.2) (.int .i64 t565)) (fun _ h_ => h_.1))) hb); replace HO563 := a_ (Kd.R_below (by refine rq_ ?_; exact (Kd.R_mono (Kd.R_far (p := ⟨gb560, 2, none⟩) (Kd.R_far (p := ⟨gb560, 1, none⟩) (Kd.R_far (p := ⟨gb560, 0, none⟩) (Kd.R_types HO563.out BK560.out (by decide)) (fun _ hk => hk.2) (.slice Ao21 t561.length co21)) (fun _ hk => hk.2) (.bool t564)) (fun _ hk => hk.2) (.int .i64 t565)) (fun _ h_ => h_.1))) hb); replace BK553 := a_ (blk_below (g := gb553) (o := .cells #[.int .u64 t550, .int .i64 t551] 27 (0, 0)) (bp_1 BK553 NB553_560) hb); replace BK560 := a_ (blk_below (g := gb560) (o := .cells #[.slice Ao21 t561.length co21, .bool t564, .int .i64 t565] 24 (0, 0)) (bp_0 BK560) hb); replace HB := hB_ (bl_2 HB GE553 GE560) hb; (try clear hb)) | ((with_reducible refine gd_ 6 ?_); refine bx_ 6 #[.int .u64 0, .int .i64 0] 27 ?_; intro gb570 hg w24 hbox hb; replace HO556 := a_ (Kd.R_below (by refine rq_ ?_; exact HO556.out) hb); replace HO563 := a_ (Kd.R_below (by refine rq_ ?_; exact HO563.out) hb); have BK570 := a_ (hbox); have GE570 := a_ (bs_2 hg HB GE553 GE560); replace HB := hB_ (bl_2 HB GE553 GE560) hb; have NB553_570 := nB_ hg BK553; have NB570_553 := nC_ hg BK553; replace BK553 := bB_ BK553 hb; have NB560_570 := nB_ hg BK560; have NB570_560 := nC_ hg BK560; replace BK560 := bB_ BK560 hb; clear hb hbox hg; have hnb25 := NB570_553.out; have hnc25 := NB553_570.out; have hnb26 := NB570_560.out; have hnc26 := NB560_570.out; obtain ⟨hcz27_0, hcz27_1, hfz27_0, hfz27_1⟩ := c2_ BK570; obtain ⟨hcz28_0, hcz28_1, hfz28_0, hfz28_1⟩ := c2_ BK553) | (go_at_call 21; (with_reducible refine (hard_Check.calls 0 8 t571 _ A11.out).mono ?_); rintro e w29 ⟨rfl, hb⟩; replace HO556 := a_ (Kd.R_below (by refine rq_ ?_; exact (Kd.R_mono (Kd.R_far (p := ⟨gb570, 1, none⟩) (Kd.R_far (p := ⟨gb570, 0, none⟩) (Kd.R_types HO556.out BK570.out (by decide)) (fun _ hk => hk.2) (.int .u64 t567)) (fun _ hk => hk.2) (.int .i64 t568)) (fun _ h_ => h_.1))) hb); replace HO563 := a_ (Kd.R_below (by refine rq_ ?_; exact (Kd.R_mono (Kd.R_far (p := ⟨gb570, 1, none⟩) (Kd.R_far (p := ⟨gb570, 0, none⟩) (Kd.R_types HO563.out BK570.out (by decide)) (fun _ hk => hk.2) (.int .u64 t567)) (fun _ hk => hk.2) (.int .i64 t568)) (fun _ h_ => h_.1))) hb); replace BK553 := a_ (blk_below (g := gb553) (o := .cells #[.int .u64 t550, .int .i64 t551] 27 (0, 0)) (bp_1 BK553 NB553_570) hb); replace BK560 := a_ (blk_below (g := gb560) (o := .cells #[.slice Ao21 t561.length co21, .bool t564, .int .i64 t565] 24 (0, 0)) (bp_1 BK560 NB560_570) hb); replace BK570 := a_ (blk_below (g := gb570) (o := .cells #[.int .u64 t567, .int .i64 t568] 27 (0, 0)) (bp_0 BK570) hb); replace HB := hB_ (bl_3 HB GE553 GE560 GE570) hb; (try clear hb)))
 go_ret
 exact ⟨fz_, bl_3 HB GE553 GE560 GE570⟩end Go.Proofs.Ytpigjmjbfpipnaa.PD
