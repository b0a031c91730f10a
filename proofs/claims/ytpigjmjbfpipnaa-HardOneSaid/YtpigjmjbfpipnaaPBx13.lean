-- Written for this claim by a program of this session. Lean checks it.
import Derived.Test.YtpigjmjbfpipnaaPBx0
import Derived.Test.YtpigjmjbfpipnaaPBx1
import Derived.Test.YtpigjmjbfpipnaaPBx6
import Derived.Test.YtpigjmjbfpipnaaPBx10
import Derived.Test.YtpigjmjbfpipnaaPBx11
import Derived.Test.YtpigjmjbfpipnaaPBx12
namespace Go.Proofs.Ytpigjmjbfpipnaa.PB
open Go.RowKit Go.Proofs.YtpigjmjbfpipnaaW.PrintWords Go.Proofs.YtpigjmjbfpipnaaW.PrintLast Go.Proofs.YtpigjmjbfpipnaaW.PrintMore Go.Proofs.Ytpigjmjbfpipnaa.Sh Go.Proofs.Ytpigjmjbfpipnaa.Op
attribute [local go_sem] max2_int min2_int max_two min_two max_three min_three max_four min_four   -- for this text's walks alone
set_option linter.unusedVariables false
set_option linter.unusedSimpArgs false

attribute [local go_sem high] eqA27
/-! ### gafferlaw04_HardTwo: function 6 -/
def gafferlaw04_HardTwo.j0 : Nat → Int → List Int → Int → Bool → Int → Int → Int → Int → List (S71) → Bool → Int → Option (Bool)
 | 0, _, _, _, _, _, _, _, _, _, _, _ => none
 | k + 1, x2, x3, x10, x29, x340000, x340001, x341000, x341001, x349000, x349001, x349002 => if x29 = true then ((hard_Check.f x340000 x340001).bind fun t350 => (some (x10 == t350))) else ((hard_Save.f k x349000 x349001 (mx x2 (-1)) x341000 x341001).bind fun bt351 => ((disk_Crash.f k bt351.1 bt351.2.1 bt351.2.2.1 x3).bind fun bt358 => ((hard_Load.f k bt358.1 bt358.2.1 bt358.2.2.1).bind fun bt364 => (if bt364.2.2 = 0 then (if (bt364.1 == x341000 && (bt364.2.1 == x341001)) = true then (some true) else (if (bt364.1 == x340000 && (bt364.2.1 == x340001)) = true then (some (bt351.2.2.2 == 8)) else (some false))) else (some false)))))
def gafferlaw04_HardTwo.f (k : Nat) (a0_0 : Int) (a0_1 : Int) (a1_0 : Int) (a1_1 : Int) (a2 : Int) (l3 : List Int) : Option (Bool) := (gafferlaw04_lives.f k).bind fun t341 => (if t341 = true then ((hard_Save.f k ([] : List (S71)) false (-1) a0_0 a0_1).bind fun bt342 => (if bt342.2.2.2 = 0 then ((hard_Check.f a1_0 a1_1).bind fun t349 => (gafferlaw04_HardTwo.j0 k a2 l3 bt342.2.2.2 (t349 != 0) a0_0 a0_1 a1_0 a1_1 bt342.1 bt342.2.1 bt342.2.2.1)) else (gafferlaw04_HardTwo.j0 k a2 l3 bt342.2.2.2 true a0_0 a0_1 a1_0 a1_1 bt342.1 bt342.2.1 bt342.2.2.1))) else (some false))
theorem gafferlaw04_HardTwo.mono_l : ∀ k, (∀ y0 y1 y2 y3 y4 y5 y6 y7 y8 y9 y10, LeO (gafferlaw04_HardTwo.j0 k y0 y1 y2 y3 y4 y5 y6 y7 y8 y9 y10) (gafferlaw04_HardTwo.j0 (k + 1) y0 y1 y2 y3 y4 y5 y6 y7 y8 y9 y10))
 | 0 => fun _ _ _ _ _ _ _ _ _ _ _ r h => by simp [gafferlaw04_HardTwo.j0] at h
 | k + 1 => by
  have ih0 := gafferlaw04_HardTwo.mono_l k
  ·intro y0 y1 y2 y3 y4 y5 y6 y7 y8 y9 y10
   unfold gafferlaw04_HardTwo.j0
   repeat' first | (with_reducible first | exact ih0 _ _ _ _ _ _ _ _ _ _ _ | exact disk_Crash.mono _ _ _ _ _ | exact gafferlaw04_lives.mono _ | exact hard_Load.mono _ _ _ _ | exact hard_Save.mono _ _ _ _ _ _ | exact LeO.refl _ | exact LeO.none _ | refine LeO.ite ?_ ?_ | refine LeO.bind ?_ (fun _ => ?_)) | exact ih0 _ _ _ _ _ _ _ _ _ _ _ | exact disk_Crash.mono _ _ _ _ _ | exact gafferlaw04_lives.mono _ | exact hard_Load.mono _ _ _ _ | exact hard_Save.mono _ _ _ _ _ _ | exact LeO.none _ | refine LeO.ite ?_ ?_ | refine LeO.bind ?_ (fun _ => ?_)
theorem gafferlaw04_HardTwo.mono : ∀ a0 a1 a2 a3 a4 a5 k, LeO (gafferlaw04_HardTwo.f k a0 a1 a2 a3 a4 a5) (gafferlaw04_HardTwo.f (k + 1) a0 a1 a2 a3 a4 a5) := by
 intro a0 a1 a2 a3 a4 a5 k
 have ih0 := gafferlaw04_HardTwo.mono_l k
 unfold gafferlaw04_HardTwo.f
 repeat' first | (with_reducible first | exact ih0 _ _ _ _ _ _ _ _ _ _ _ | exact disk_Crash.mono _ _ _ _ _ | exact gafferlaw04_lives.mono _ | exact hard_Load.mono _ _ _ _ | exact hard_Save.mono _ _ _ _ _ _ | exact LeO.refl _ | exact LeO.none _ | refine LeO.ite ?_ ?_ | refine LeO.bind ?_ (fun _ => ?_)) | exact ih0 _ _ _ _ _ _ _ _ _ _ _ | exact disk_Crash.mono _ _ _ _ _ | exact gafferlaw04_lives.mono _ | exact hard_Load.mono _ _ _ _ | exact hard_Save.mono _ _ _ _ _ _ | exact LeO.none _ | refine LeO.ite ?_ ?_ | refine LeO.bind ?_ (fun _ => ?_)
set_option maxHeartbeats 80000000 in
set_option maxRecDepth 100000 in
theorem gafferlaw04_HardTwo.calls (k : Nat) (a0_0 : Int) (a0_1 : Int) (a1_0 : Int) (a1_1 : Int) (a2 : Int) (A3 : Option Addr) (c3 : Nat) (l3 : List Int) (r : Bool) (w : World) (hr3 : Kd.C (Kd.int .i64) w A3 l3.length l3) (hc3 : l3.length ≤ c3) (h : gafferlaw04_HardTwo.f k a0_0 a0_1 a1_0 a1_1 a2 l3 = some r) (hr : r = true) :
  Calls Try.prog 6 #[.agg #[.int .u64 a0_0, .int .i64 a0_1], .agg #[.int .u64 a1_0, .int .i64 a1_1], .int .i64 a2, .slice A3 l3.length c3] w fun e w' => e = .returned (.bool r) ∧ Below w.heap.size w w' := by
 have hu27 := Try.underlying27
 have hu24 := Try.underlying24
 have HR3 := Aside0.mk hr3
 have HC3 := Aside0.mk hc3
 clear hr3 hc3
 have HB := Aside0.mk (Below.refl w.heap.size w)
 have H : ((gafferlaw04_lives.f k).bind fun t341 => (if t341 = true then ((hard_Save.f k ([] : List (S71)) false (-1) a0_0 a0_1).bind fun bt342 => (if bt342.2.2.2 = 0 then ((hard_Check.f a1_0 a1_1).bind fun t349 => (gafferlaw04_HardTwo.j0 k a2 l3 bt342.2.2.2 (t349 != 0) a0_0 a0_1 a1_0 a1_1 bt342.1 bt342.2.1 bt342.2.2.1)) else (gafferlaw04_HardTwo.j0 k a2 l3 bt342.2.2.2 true a0_0 a0_1 a1_0 a1_1 bt342.1 bt342.2.1 bt342.2.2.1))) else (some false))) = some r := h
 clear h
 obtain ⟨t341, A50, H⟩ := Option.bind_eq_some_iff.mp H
 try dsimp only at H
 have A5 := Aside0.mk A50
 clear A50
 by_cases c6 : t341 = true
 rotate_left
 ·replace c6 := Bool.eq_false_iff.mpr c6
  subst c6
  have H1 : (some false) = some r := by rw [if_neg (show ¬ (false = true) by decide)] at H; exact H
  clear H
  have H := H1
  clear H1
  exact absurd (H.trans (congrArg some hr)) (by simp)

 subst c6
 have H1 : ((hard_Save.f k ([] : List (S71)) false (-1) a0_0 a0_1).bind fun bt342 => (if bt342.2.2.2 = 0 then ((hard_Check.f a1_0 a1_1).bind fun t349 => (gafferlaw04_HardTwo.j0 k a2 l3 bt342.2.2.2 (t349 != 0) a0_0 a0_1 a1_0 a1_1 bt342.1 bt342.2.1 bt342.2.2.1)) else (gafferlaw04_HardTwo.j0 k a2 l3 bt342.2.2.2 true a0_0 a0_1 a1_0 a1_1 bt342.1 bt342.2.1 bt342.2.2.1))) = some r := by rw [if_pos rfl] at H; exact H
 clear H
 have H := H1
 clear H1
 obtain ⟨⟨t342, t345, t346, t347⟩, A70, H⟩ := Option.bind_eq_some_iff.mp H
 try dsimp only at H
 have A7 := Aside0.mk A70
 clear A70
 have HC8 := Aside0.mk H
 clear H
 go_enter Try.func6, Try.ntmps6
 go_upto_region 4 with (first | ((with_reducible refine gate_dst (N := 4) rfl ?_); refine bx_ 4 #[.int .u64 a0_0, .int .i64 a0_1] 27 ?_; intro gb339 hg w9 hbox hb; have BK339 := Aside0.mk (hbox); have GE339 := Aside0.mk (bs_0 hg HB); replace HB := Aside0.mk (below_step (bl_ HB) hb); clear hb hbox hg) | ((with_reducible refine gate_dst (N := 5) rfl ?_); refine bx_ 5 #[.int .u64 a1_0, .int .i64 a1_1] 27 ?_; intro gb340 hg w10 hbox hb; have BK340 := Aside0.mk (hbox); have GE340 := Aside0.mk (bs_1 hg HB GE339); replace HB := Aside0.mk (below_step (bl_1 HB GE339) hb); have NB339_340 := Aside0.mk (nb_ hg BK339); have NB340_339 := Aside0.mk (nc_ hg BK339); replace BK339 := Aside0.mk (bb_ BK339 hb); clear hb hbox hg) | ((with_reducible refine gate_callee (f := 19) rfl ?_); refine goesL_ (some 15) rfl rfl Try.func19 (by kernel_rfl) rfl #[] rfl (ar_) ?_; (with_reducible refine (gafferlaw04_lives.calls k  true _ A5.out).mono ?_); rintro e w11 ⟨rfl, hb⟩; refine ⟨_, rfl, ?_⟩; replace BK339 := Aside0.mk (bb_ BK339 hb); replace BK340 := Aside0.mk (bb_ BK340 hb); replace HB := Aside0.mk (below_step (bl_2 HB GE339 GE340) hb); (try clear hb); have hnb12 := NB339_340.out; have hnc12 := NB340_339.out; obtain ⟨hcz13_0, hcz13_1, hfz13_0, hfz13_1⟩ := c2_ BK339) | ((with_reducible refine gate_callee (f := 17) rfl ?_); refine goesL_ (some 20) rfl rfl Try.func17 (by kernel_rfl) rfl #[.agg #[.slice none 0 0, .bool false, .int .i64 (-1)], .agg #[.int .u64 a0_0, .int .i64 a0_1]] rfl (ar_) ?_; (refine (hard_Save.calls k _ _ ([] : List (S71)) false (-1) a0_0 a0_1 t342 t345 t346 t347 _ ?side1 ?side2 A7.out).mono ?_); (case side1 => exact Kd.C_nil _ _); (case side2 => exact Nat.le_refl _); rintro e w14 ⟨v343, rfl, ho0, hb⟩; (try clear A7); refine ⟨_, rfl, ?_⟩; have HO344 := Aside0.mk (Kd.R_lower ho0 (below_size (bl_2 HB GE339 GE340))); replace BK339 := Aside0.mk (bb_ BK339 hb); replace BK340 := Aside0.mk (bb_ BK340 hb); replace HB := Aside0.mk (below_step (bl_2 HB GE339 GE340) hb); (try clear hb); (try clear ho0)) | ((with_reducible refine gate_dst (N := 9) rfl ?_); refine bx_ 9 #[.slice none 0 0, .bool false, .int .i64 0] 24 ?_; intro gb348 hg w15 hbox hb; replace HO344 := Aside0.mk (Kd.R_below (by (with_reducible repeat (first | apply Kd.R_alloc | apply Kd.R_drewN | apply Kd.R_drew)); exact HO344.out) hb); have BK348 := Aside0.mk (hbox); have GE348 := Aside0.mk (bs_2 hg HB GE339 GE340); replace HB := Aside0.mk (below_step (bl_2 HB GE339 GE340) hb); have NB339_348 := Aside0.mk (nb_ hg BK339); have NB348_339 := Aside0.mk (nc_ hg BK339); replace BK339 := Aside0.mk (bb_ BK339 hb); have NB340_348 := Aside0.mk (nb_ hg BK340); have NB348_340 := Aside0.mk (nc_ hg BK340); replace BK340 := Aside0.mk (bb_ BK340 hb); clear hb hbox hg; obtain ⟨Ao16, co16, eo16⟩ := Kd.R_slice HO344.out; subst eo16; have hnb17 := NB348_339.out; have hnc17 := NB339_348.out; have hnb18 := NB348_340.out; have hnc18 := NB340_348.out; obtain ⟨hcz19_0, hcz19_1, hcz19_2, hfz19_0, hfz19_1, hfz19_2⟩ := c3_ BK348))
 (try simp only [Act.put, List.setIfInBounds_toArray, List.set_cons_zero, List.set_cons_succ])
 go_cut [29] (fun v29 wc => ∃ (kq : Nat) (x29_7 : Bool), v29 = .bool x29_7 ∧ Aside0 (gafferlaw04_HardTwo.j0 kq a2 l3 t347 x29_7 a0_0 a0_1 a1_0 a1_1 t342 t345 t346 = some r) ∧ Aside0 (kq ≤ k) ∧ Aside0 (Kd.R k71 71 wc w.heap.size (fun _ => True) (.slice Ao16 t342.length co16) t342) ∧ Aside0 (wc.heap[gb339]? = some (.cells #[.int .u64 a0_0, .int .i64 a0_1] 27 (0, 0))) ∧ Aside0 (wc.heap[gb340]? = some (.cells #[.int .u64 a1_0, .int .i64 a1_1] 27 (0, 0))) ∧ Aside0 (wc.heap[gb348]? = some (.cells #[(.slice Ao16 t342.length co16), .bool t345, .int .i64 t346] 24 (0, 0))) ∧ Aside0 (Below w.heap.size w wc))
 case first =>
  have H := HC8.out
  clear HC8
  by_cases c20 : t347 = 0
  ·rw [if_pos c20] at H
   have c20b0 : (t347 == 0) = true := beq_iff_eq.mpr c20
   have c20b1 : (t347 != 0) = false := bne_eq_false_iff_eq.mpr c20
   clear c20
   (first | rw [c20b0] | (simp only [i64_w, i32_w]; rw [c20b0]) | skip)
   obtain ⟨t349, A210, H⟩ := Option.bind_eq_some_iff.mp H
   try dsimp only at H
   have A21 := Aside0.mk A210
   clear A210
   have H' := Aside0.mk H
   clear H
   have hnb22 := NB340_339.out
   have hnc22 := NB339_340.out
   have hnb23 := NB340_348.out
   have hnc23 := NB348_340.out
   obtain ⟨hcz24_0, hcz24_1, hfz24_0, hfz24_1⟩ := c2_ BK340
   go_wp2_with (first | (go_at_call 21; (with_reducible refine (hard_Check.calls a1_0 a1_1 t349 _ A21.out).mono ?_); rintro e w25 ⟨rfl, hb⟩; replace HO344 := Aside0.mk (Kd.R_below (by (with_reducible repeat (first | apply Kd.R_alloc | apply Kd.R_drewN | apply Kd.R_drew)); exact (Kd.R_mono (Kd.R_far (p := ⟨gb348, 2, none⟩) (Kd.R_far (p := ⟨gb348, 1, none⟩) (Kd.R_far (p := ⟨gb348, 0, none⟩) (Kd.R_types HO344.out BK348.out (by decide)) (fun _ hk => hk.2) (.slice Ao16 t342.length co16)) (fun _ hk => hk.2) (.bool t345)) (fun _ hk => hk.2) (.int .i64 t346)) (fun _ h_ => h_.1))) hb); replace BK339 := Aside0.mk (blk_below (g := gb339) (o := .cells #[.int .u64 a0_0, .int .i64 a0_1] 27 (0, 0)) (bp_1 BK339 NB339_348) hb); replace BK340 := Aside0.mk (blk_below (g := gb340) (o := .cells #[.int .u64 a1_0, .int .i64 a1_1] 27 (0, 0)) (bp_1 BK340 NB340_348) hb); replace BK348 := Aside0.mk (blk_below (g := gb348) (o := .cells #[.slice Ao16 t342.length co16, .bool t345, .int .i64 t346] 24 (0, 0)) (bp_0 BK348) hb); replace HB := Aside0.mk (below_step (bl_3 HB GE339 GE340 GE348) hb); (try clear hb)))
   go_meet
   case rel => exact ⟨_, ((t349 != 0)), (by first | rfl | (simp; done) | (simp [*]; done)), H', ⟨by first | omega | exact Nat.le_refl _⟩, ⟨by (with_reducible repeat (first | apply Kd.R_alloc | apply Kd.R_drewN | apply Kd.R_drew)); exact HO344.out⟩, ⟨bk_ BK339⟩, ⟨bk_ BK340⟩, ⟨bk_ BK348⟩, ⟨bl_3 HB GE339 GE340 GE348⟩⟩
  rw [if_neg c20] at H
  have c20b0 : (t347 == 0) = false := beq_eq_false_iff_ne.mpr c20
  have c20b1 : (t347 != 0) = true := bne_iff_ne.mpr c20
  (first | rw [c20b0] | (simp only [i64_w, i32_w]; rw [c20b0]) | skip)
  have H' := Aside0.mk H
  clear H
  go_wp2
  go_meet
  case rel => exact ⟨_, (true), (by first | rfl | (simp; done) | (simp [*]; done)), H', ⟨by first | omega | exact Nat.le_refl _⟩, ⟨by (with_reducible repeat (first | apply Kd.R_alloc | apply Kd.R_drewN | apply Kd.R_drew)); exact Kd.R_mono (Kd.R_far (p := ⟨gb348, 2, none⟩) (Kd.R_far (p := ⟨gb348, 1, none⟩) (Kd.R_far (p := ⟨gb348, 0, none⟩) (Kd.R_types HO344.out BK348.out (by decide)) (fun _ hk => hk.2) (.slice Ao16 t342.length co16)) (fun _ hk => hk.2) (.bool t345)) (fun _ hk => hk.2) (.int .i64 t346)) (fun _ hk => trivial)⟩, ⟨by (with_reducible repeat (first | refine blk_drewN ?_ _ | refine blk_drew ?_ | refine blk_alloc ?_ _)); refine blk_far ?_ NB339_348.out _; (with_reducible repeat (first | refine blk_drewN ?_ _ | refine blk_drew ?_ | refine blk_alloc ?_ _)); refine blk_far ?_ NB339_348.out _; (with_reducible repeat (first | refine blk_drewN ?_ _ | refine blk_drew ?_ | refine blk_alloc ?_ _)); refine blk_far ?_ NB339_348.out _; (with_reducible repeat (first | refine blk_drewN ?_ _ | refine blk_drew ?_ | refine blk_alloc ?_ _)); exact BK339.out⟩, ⟨by (with_reducible repeat (first | refine blk_drewN ?_ _ | refine blk_drew ?_ | refine blk_alloc ?_ _)); refine blk_far ?_ NB340_348.out _; (with_reducible repeat (first | refine blk_drewN ?_ _ | refine blk_drew ?_ | refine blk_alloc ?_ _)); refine blk_far ?_ NB340_348.out _; (with_reducible repeat (first | refine blk_drewN ?_ _ | refine blk_drew ?_ | refine blk_alloc ?_ _)); refine blk_far ?_ NB340_348.out _; (with_reducible repeat (first | refine blk_drewN ?_ _ | refine blk_drew ?_ | refine blk_alloc ?_ _)); exact BK340.out⟩, ⟨by (with_reducible repeat (first | refine blk_drewN ?_ _ | refine blk_drew ?_ | refine blk_alloc ?_ _)); refine blk_put (cs := #[.slice Ao16 t342.length co16, .bool t345, .int .i64 0]) ?_ 2 _ rfl; (with_reducible repeat (first | refine blk_drewN ?_ _ | refine blk_drew ?_ | refine blk_alloc ?_ _)); refine blk_put (cs := #[.slice Ao16 t342.length co16, .bool false, .int .i64 0]) ?_ 1 _ rfl; (with_reducible repeat (first | refine blk_drewN ?_ _ | refine blk_drew ?_ | refine blk_alloc ?_ _)); refine blk_put (cs := #[.slice none 0 0, .bool false, .int .i64 0]) ?_ 0 _ rfl; (with_reducible repeat (first | refine blk_drewN ?_ _ | refine blk_drew ?_ | refine blk_alloc ?_ _)); exact BK348.out⟩, ⟨bl_3 HB GE339 GE340 GE348⟩⟩
 case rest =>
  clear HC8
  try clear c1
  try clear c2
  try clear p2
  try clear c3
  try clear c6
  try clear c12
  try clear c17
  try clear c18
  try clear c19
  try clear c20
  try clear c20b0
  try clear c20b1
  try clear c22
  try clear c23
  try clear hcz13_0
  try clear hcz13_1
  try clear hcz19_0
  try clear hcz19_1
  try clear hcz19_2
  try clear hcz24_0
  try clear hcz24_1
  try clear hfz13_0
  try clear hfz13_1
  try clear hfz19_0
  try clear hfz19_1
  try clear hfz19_2
  try clear hfz24_0
  try clear hfz24_1
  obtain ⟨kq, x29_7, rfl, HA, HJ7, HO_349000, BK339, BK340, BK348, HB⟩ := hcut
  cases kq with
  | zero => exact absurd HA.out (by simp [gafferlaw04_HardTwo.j0])
  | succ kj7 =>
   have H := HA.out
   clear HA
   simp only [gafferlaw04_HardTwo.j0] at H
   by_cases c26 : x29_7 = true
   ·subst c26
    have H1 : ((hard_Check.f a0_0 a0_1).bind fun t350 => (some (t347 == t350))) = some r := by rw [if_pos rfl] at H; exact H
    clear H
    have H := H1
    clear H1
    obtain ⟨t350, A270, H⟩ := Option.bind_eq_some_iff.mp H
    try dsimp only at H
    have A27 := Aside0.mk A270
    clear A270
    obtain rfl := Option.some.inj H
    have hnb28 := NB339_340.out
    have hnc28 := NB340_339.out
    have hnb29 := NB339_348.out
    have hnc29 := NB348_339.out
    obtain ⟨hcz30_0, hcz30_1, hfz30_0, hfz30_1⟩ := c2_ BK339
    go_wp2_with (first | ((with_reducible refine gate_callee (f := 21) rfl ?_); refine goesL_ (some 32) rfl rfl Try.func21 (by kernel_rfl) rfl #[.agg #[.int .u64 a0_0, .int .i64 a0_1]] rfl (ar_) ?_; (with_reducible refine (hard_Check.calls a0_0 a0_1 t350 _ A27.out).mono ?_); rintro e w31 ⟨rfl, hb⟩; refine ⟨_, rfl, ?_⟩; replace HO_349000 := Aside0.mk (Kd.R_below (by (with_reducible repeat (first | apply Kd.R_alloc | apply Kd.R_drewN | apply Kd.R_drew)); exact HO_349000.out) hb); replace BK339 := Aside0.mk (bb_ BK339 hb); replace BK340 := Aside0.mk (bb_ BK340 hb); replace BK348 := Aside0.mk (bb_ BK348 hb); replace HB := Aside0.mk (below_step (bl_3 HB GE339 GE340 GE348) hb); (try clear hb)))
    go_ret
    exact ⟨by first | rfl | (simp; done) | (simp [*]; done), bl_3 HB GE339 GE340 GE348⟩
   replace c26 := Bool.eq_false_iff.mpr c26
   subst c26
   have H1 : ((hard_Save.f kj7 t342 t345 (mx a2 (-1)) a1_0 a1_1).bind fun bt351 => ((disk_Crash.f kj7 bt351.1 bt351.2.1 bt351.2.2.1 l3).bind fun bt358 => ((hard_Load.f kj7 bt358.1 bt358.2.1 bt358.2.2.1).bind fun bt364 => (if bt364.2.2 = 0 then (if (bt364.1 == a1_0 && (bt364.2.1 == a1_1)) = true then (some true) else (if (bt364.1 == a0_0 && (bt364.2.1 == a0_1)) = true then (some (bt351.2.2.2 == 8)) else (some false))) else (some false))))) = some r := by rw [if_neg (show ¬ (false = true) by decide)] at H; exact H
   clear H
   have H := H1
   clear H1
   obtain ⟨ji32, hji32⟩ : ∃ j_ : Int, (mx a2 (-1)) = j_ := ⟨_, rfl⟩
   replace H : ((hard_Save.f kj7 t342 t345 (ji32) a1_0 a1_1).bind fun bt351 => ((disk_Crash.f kj7 bt351.1 bt351.2.1 bt351.2.2.1 l3).bind fun bt358 => ((hard_Load.f kj7 bt358.1 bt358.2.1 bt358.2.2.1).bind fun bt364 => (if bt364.2.2 = 0 then (if (bt364.1 == a1_0 && (bt364.2.1 == a1_1)) = true then (some true) else (if (bt364.1 == a0_0 && (bt364.2.1 == a0_1)) = true then (some (bt351.2.2.2 == 8)) else (some false))) else (some false))))) = some r := by first | (rw [hji32] at H; exact H) | (simp only [hji32] at H ⊢; exact H)
   have hji32_ : (if a2 < (-1) then (-1) else a2) = ji32 := hji32
   obtain ⟨⟨t351, t354, t355, t356⟩, A330, H⟩ := Option.bind_eq_some_iff.mp H
   try dsimp only at H
   have A33 := Aside0.mk A330
   clear A330
   obtain ⟨⟨t358, t361, t362, t363⟩, A340, H⟩ := Option.bind_eq_some_iff.mp H
   try dsimp only at H
   have A34 := Aside0.mk A340
   clear A340
   obtain ⟨⟨t364, t365, t366⟩, A350, H⟩ := Option.bind_eq_some_iff.mp H
   try dsimp only at H
   have A35 := Aside0.mk A350
   clear A350
   by_cases c36 : t366 = 0
   rotate_left
   ·rw [if_neg c36] at H
    have c36b0 : (t366 == 0) = false := beq_eq_false_iff_ne.mpr c36
    have c36b1 : (t366 != 0) = true := bne_iff_ne.mpr c36
    exact absurd (H.trans (congrArg some hr)) (by simp)
   rw [if_pos c36] at H
   have c36b0 : (t366 == 0) = true := beq_iff_eq.mpr c36
   have c36b1 : (t366 != 0) = false := bne_eq_false_iff_eq.mpr c36
   clear c36
   by_cases c37 : (t364 == a1_0 && (t365 == a1_1)) = true
   ·rw [if_pos c37] at H
    have c37b0 : (t364 == a1_0 && (t365 == a1_1)) = true := c37
    (try (have c37b1 : decide (t364 = a1_0 && (t365 == a1_1)) = true := by simpa using c37))
    (try (have c37b2 : (t364 == a1_0 && (t365 == a1_1)) = true := by simpa using c37))
    clear c37
    obtain rfl := Option.some.inj H
    have hnb38 := NB348_339.out
    have hnc38 := NB339_348.out
    have hnb39 := NB348_340.out
    have hnc39 := NB340_348.out
    obtain ⟨hcz40_0, hcz40_1, hcz40_2, hfz40_0, hfz40_1, hfz40_2⟩ := c3_ BK348
    have hnb41 := NB340_339.out
    have hnc41 := NB339_340.out
    obtain ⟨hcz42_0, hcz42_1, hfz42_0, hfz42_1⟩ := c2_ BK340
    go_wp2_with (first | ((with_reducible refine gate_callee (f := 17) rfl ?_); refine goesL_ (some 40) rfl rfl Try.func17 (by kernel_rfl) rfl #[.agg #[.slice Ao16 t342.length co16, .bool t345, .int .i64 ji32], .agg #[.int .u64 a1_0, .int .i64 a1_1]] rfl (by (try simp only [List.map_toArray, List.map_cons, List.map_nil]); first | done | (simp only [hji32]; rfl) | rfl | (simp only [List.length_drop, List.length_take]; rfl)) ?_; (with_reducible refine (hard_Save.calls kj7 _ _ t342 t345 ji32 a1_0 a1_1 t351 t354 t355 t356 _ ?side1 ?side2 A33.out).mono ?_); (case side1 => refine (Kd.R_reads' (e := 71) (base := w.heap.size) (ok := fun k_ => True) (n := t342.length) (c := co16) ?_).2.2; exact (by (with_reducible repeat (first | apply Kd.R_alloc | apply Kd.R_drewN | apply Kd.R_drew)); exact (Kd.R_mono (Kd.R_far (p := ⟨gb348, 2, none⟩) (Kd.R_types HO_349000.out BK348.out (by decide)) (fun _ hk => hk.2) (.int .i64 ji32)) (fun _ h_ => h_.1)))); (case side2 => exact (Kd.R_reads' HO_349000.out).2.1); rintro e w43 ⟨v352, rfl, ho0, hb⟩; refine ⟨_, rfl, ?_⟩; have HO353 := Aside0.mk (Kd.R_lower (Kd.R_new' ho0 (Kd.R_lt (by (with_reducible repeat (first | apply Kd.R_alloc | apply Kd.R_drewN | apply Kd.R_drew)); exact (Kd.R_mono (Kd.R_far (p := ⟨gb348, 2, none⟩) (Kd.R_types HO_349000.out BK348.out (by decide)) (fun _ hk => hk.2) (.int .i64 ji32)) (fun _ h_ => h_.1))))) (below_size (bl_3 HB GE339 GE340 GE348))); replace HO_349000 := Aside0.mk (Kd.R_elder' (by (with_reducible repeat (first | apply Kd.R_alloc | apply Kd.R_drewN | apply Kd.R_drew)); exact (Kd.R_mono (Kd.R_far (p := ⟨gb348, 2, none⟩) (Kd.R_types HO_349000.out BK348.out (by decide)) (fun _ hk => hk.2) (.int .i64 ji32)) (fun _ h_ => h_.1))) (Kd.R_base ho0) hb); replace BK339 := Aside0.mk (blk_below (g := gb339) (o := .cells #[.int .u64 a0_0, .int .i64 a0_1] 27 (0, 0)) (bp_1 BK339 NB339_348) hb); replace BK340 := Aside0.mk (blk_below (g := gb340) (o := .cells #[.int .u64 a1_0, .int .i64 a1_1] 27 (0, 0)) (bp_1 BK340 NB340_348) hb); replace BK348 := Aside0.mk (blk_below (g := gb348) (o := .cells #[.slice Ao16 t342.length co16, .bool t345, .int .i64 ji32] 24 (0, 0)) (bp_0 BK348) hb); replace HB := Aside0.mk (below_step (bl_3 HB GE339 GE340 GE348) hb); (try clear hb); (try clear ho0)) | ((with_reducible refine gate_dst (N := 11) rfl ?_); refine bx_ 11 #[.slice none 0 0, .bool false, .int .i64 0] 24 ?_; intro gb357 hg w44 hbox hb; replace HO_349000 := Aside0.mk (Kd.R_below (by (with_reducible repeat (first | apply Kd.R_alloc | apply Kd.R_drewN | apply Kd.R_drew)); exact HO_349000.out) hb); replace HO353 := Aside0.mk (Kd.R_below (by (with_reducible repeat (first | apply Kd.R_alloc | apply Kd.R_drewN | apply Kd.R_drew)); exact HO353.out) hb); have BK357 := Aside0.mk (hbox); have GE357 := Aside0.mk (bs_3 hg HB GE339 GE340 GE348); replace HB := Aside0.mk (below_step (bl_3 HB GE339 GE340 GE348) hb); have NB339_357 := Aside0.mk (nb_ hg BK339); have NB357_339 := Aside0.mk (nc_ hg BK339); replace BK339 := Aside0.mk (bb_ BK339 hb); have NB340_357 := Aside0.mk (nb_ hg BK340); have NB357_340 := Aside0.mk (nc_ hg BK340); replace BK340 := Aside0.mk (bb_ BK340 hb); have NB348_357 := Aside0.mk (nb_ hg BK348); have NB357_348 := Aside0.mk (nc_ hg BK348); replace BK348 := Aside0.mk (bb_ BK348 hb); clear hb hbox hg; obtain ⟨Ao45, co45, eo45⟩ := Kd.R_slice HO353.out; subst eo45; have hnb46 := NB357_339.out; have hnc46 := NB339_357.out; have hnb47 := NB357_340.out; have hnc47 := NB340_357.out; have hnb48 := NB357_348.out; have hnc48 := NB348_357.out; obtain ⟨hcz49_0, hcz49_1, hcz49_2, hfz49_0, hfz49_1, hfz49_2⟩ := c3_ BK357) | ((with_reducible refine gate_callee (f := 23) rfl ?_); refine goesL_ (some 46) rfl rfl Try.func23 (by kernel_rfl) rfl #[.agg #[.slice Ao45 t351.length co45, .bool t354, .int .i64 t355], .slice A3 l3.length c3] rfl (ar_) ?_; (with_reducible refine (disk_Crash.calls kj7 _ _ t351 t354 t355 _ _ l3 t358 t361 t362 t363 _ ?side1 ?side2 ?side3 ?side4 A34.out).mono ?_); (case side1 => refine (Kd.R_reads' (e := 71) (base := w.heap.size) (ok := fun k_ => (True ∧ some k_ ≠ (.slice Ao16 t342.length co16 : Value).ownBlock)) (n := t351.length) (c := co45) ?_).2.2; exact (by (with_reducible repeat (first | apply Kd.R_alloc | apply Kd.R_drewN | apply Kd.R_drew)); exact (Kd.R_mono (Kd.R_far (p := ⟨gb357, 2, none⟩) (Kd.R_far (p := ⟨gb357, 1, none⟩) (Kd.R_far (p := ⟨gb357, 0, none⟩) (Kd.R_types HO353.out BK357.out (by decide)) (fun _ hk => hk.2) (.slice Ao45 t351.length co45)) (fun _ hk => hk.2) (.bool t354)) (fun _ hk => hk.2) (.int .i64 t355)) (fun _ h_ => h_.1)))); (case side2 => exact (Kd.R_reads' HO353.out).2.1); (case side3 => exact Kd.C_below HR3.out (bl_4 HB GE339 GE340 GE348 GE357)); (case side4 => exact HC3.out); rintro e w50 ⟨v359, rfl, ho0, hb⟩; refine ⟨_, rfl, ?_⟩; have HO360 := Aside0.mk (Kd.R_lower (Kd.R_new' (Kd.R_new' ho0 (Kd.R_lt (by (with_reducible repeat (first | apply Kd.R_alloc | apply Kd.R_drewN | apply Kd.R_drew)); exact (Kd.R_mono (Kd.R_far (p := ⟨gb357, 2, none⟩) (Kd.R_far (p := ⟨gb357, 1, none⟩) (Kd.R_far (p := ⟨gb357, 0, none⟩) (Kd.R_types HO_349000.out BK357.out (by decide)) (fun _ hk => hk.2) (.slice Ao45 t351.length co45)) (fun _ hk => hk.2) (.bool t354)) (fun _ hk => hk.2) (.int .i64 t355)) (fun _ h_ => h_.1))))) (Kd.R_lt (by (with_reducible repeat (first | apply Kd.R_alloc | apply Kd.R_drewN | apply Kd.R_drew)); exact (Kd.R_mono (Kd.R_far (p := ⟨gb357, 2, none⟩) (Kd.R_far (p := ⟨gb357, 1, none⟩) (Kd.R_far (p := ⟨gb357, 0, none⟩) (Kd.R_types HO353.out BK357.out (by decide)) (fun _ hk => hk.2) (.slice Ao45 t351.length co45)) (fun _ hk => hk.2) (.bool t354)) (fun _ hk => hk.2) (.int .i64 t355)) (fun _ h_ => h_.1))))) (below_size (bl_4 HB GE339 GE340 GE348 GE357))); replace HO_349000 := Aside0.mk (Kd.R_elder' (by (with_reducible repeat (first | apply Kd.R_alloc | apply Kd.R_drewN | apply Kd.R_drew)); exact (Kd.R_mono (Kd.R_far (p := ⟨gb357, 2, none⟩) (Kd.R_far (p := ⟨gb357, 1, none⟩) (Kd.R_far (p := ⟨gb357, 0, none⟩) (Kd.R_types HO_349000.out BK357.out (by decide)) (fun _ hk => hk.2) (.slice Ao45 t351.length co45)) (fun _ hk => hk.2) (.bool t354)) (fun _ hk => hk.2) (.int .i64 t355)) (fun _ h_ => h_.1))) (Kd.R_base ho0) hb); replace HO353 := Aside0.mk (Kd.R_elder' (by (with_reducible repeat (first | apply Kd.R_alloc | apply Kd.R_drewN | apply Kd.R_drew)); exact (Kd.R_mono (Kd.R_far (p := ⟨gb357, 2, none⟩) (Kd.R_far (p := ⟨gb357, 1, none⟩) (Kd.R_far (p := ⟨gb357, 0, none⟩) (Kd.R_types HO353.out BK357.out (by decide)) (fun _ hk => hk.2) (.slice Ao45 t351.length co45)) (fun _ hk => hk.2) (.bool t354)) (fun _ hk => hk.2) (.int .i64 t355)) (fun _ h_ => h_.1))) (Kd.R_base ho0) hb); replace BK339 := Aside0.mk (blk_below (g := gb339) (o := .cells #[.int .u64 a0_0, .int .i64 a0_1] 27 (0, 0)) (bp_1 BK339 NB339_357) hb); replace BK340 := Aside0.mk (blk_below (g := gb340) (o := .cells #[.int .u64 a1_0, .int .i64 a1_1] 27 (0, 0)) (bp_1 BK340 NB340_357) hb); replace BK348 := Aside0.mk (blk_below (g := gb348) (o := .cells #[.slice Ao16 t342.length co16, .bool t345, .int .i64 ji32] 24 (0, 0)) (bp_1 BK348 NB348_357) hb); replace BK357 := Aside0.mk (blk_below (g := gb357) (o := .cells #[.slice Ao45 t351.length co45, .bool t354, .int .i64 t355] 24 (0, 0)) (bp_0 BK357) hb); replace HB := Aside0.mk (below_step (bl_4 HB GE339 GE340 GE348 GE357) hb); (try clear hb); (try clear ho0); obtain ⟨Ao51, co51, eo51⟩ := Kd.R_slice HO360.out; subst eo51; obtain ⟨hcz52_0, hcz52_1, hcz52_2, hfz52_0, hfz52_1, hfz52_2⟩ := c3_ BK357) | ((with_reducible refine gate_callee (f := 15) rfl ?_); refine goesL_ (some 51) rfl rfl Try.func15 (by kernel_rfl) rfl #[.agg #[.slice Ao51 t358.length co51, .bool t361, .int .i64 t362]] rfl (ar_) ?_; (with_reducible refine (hard_Load.calls kj7 _ _ t358 t361 t362 t364 t365 t366 _ ?side1 ?side2 A35.out).mono ?_); (case side1 => refine (Kd.R_reads' (e := 71) (base := w.heap.size) (ok := fun k_ => ((True ∧ some k_ ≠ (.slice Ao16 t342.length co16 : Value).ownBlock) ∧ some k_ ≠ (.slice Ao45 t351.length co45 : Value).ownBlock)) (n := t358.length) (c := co51) ?_).2.2; exact (by (with_reducible repeat (first | apply Kd.R_alloc | apply Kd.R_drewN | apply Kd.R_drew)); exact (Kd.R_mono (Kd.R_far (p := ⟨gb357, 2, none⟩) (Kd.R_far (p := ⟨gb357, 1, none⟩) (Kd.R_far (p := ⟨gb357, 0, none⟩) (Kd.R_types HO360.out BK357.out (by decide)) (fun _ hk => hk.2) (.slice Ao51 t358.length co51)) (fun _ hk => hk.2) (.bool t361)) (fun _ hk => hk.2) (.int .i64 t362)) (fun _ h_ => h_.1)))); (case side2 => exact (Kd.R_reads' HO360.out).2.1); rintro e w53 ⟨rfl, hb⟩; refine ⟨_, rfl, ?_⟩; replace HO_349000 := Aside0.mk (Kd.R_below (by (with_reducible repeat (first | apply Kd.R_alloc | apply Kd.R_drewN | apply Kd.R_drew)); exact (Kd.R_mono (Kd.R_far (p := ⟨gb357, 2, none⟩) (Kd.R_far (p := ⟨gb357, 1, none⟩) (Kd.R_far (p := ⟨gb357, 0, none⟩) (Kd.R_types HO_349000.out BK357.out (by decide)) (fun _ hk => hk.2) (.slice Ao51 t358.length co51)) (fun _ hk => hk.2) (.bool t361)) (fun _ hk => hk.2) (.int .i64 t362)) (fun _ h_ => h_.1))) hb); replace HO353 := Aside0.mk (Kd.R_below (by (with_reducible repeat (first | apply Kd.R_alloc | apply Kd.R_drewN | apply Kd.R_drew)); exact (Kd.R_mono (Kd.R_far (p := ⟨gb357, 2, none⟩) (Kd.R_far (p := ⟨gb357, 1, none⟩) (Kd.R_far (p := ⟨gb357, 0, none⟩) (Kd.R_types HO353.out BK357.out (by decide)) (fun _ hk => hk.2) (.slice Ao51 t358.length co51)) (fun _ hk => hk.2) (.bool t361)) (fun _ hk => hk.2) (.int .i64 t362)) (fun _ h_ => h_.1))) hb); replace HO360 := Aside0.mk (Kd.R_below (by (with_reducible repeat (first | apply Kd.R_alloc | apply Kd.R_drewN | apply Kd.R_drew)); exact (Kd.R_mono (Kd.R_far (p := ⟨gb357, 2, none⟩) (Kd.R_far (p := ⟨gb357, 1, none⟩) (Kd.R_far (p := ⟨gb357, 0, none⟩) (Kd.R_types HO360.out BK357.out (by decide)) (fun _ hk => hk.2) (.slice Ao51 t358.length co51)) (fun _ hk => hk.2) (.bool t361)) (fun _ hk => hk.2) (.int .i64 t362)) (fun _ h_ => h_.1))) hb); replace BK339 := Aside0.mk (blk_below (g := gb339) (o := .cells #[.int .u64 a0_0, .int .i64 a0_1] 27 (0, 0)) (bp_1 BK339 NB339_357) hb); replace BK340 := Aside0.mk (blk_below (g := gb340) (o := .cells #[.int .u64 a1_0, .int .i64 a1_1] 27 (0, 0)) (bp_1 BK340 NB340_357) hb); replace BK348 := Aside0.mk (blk_below (g := gb348) (o := .cells #[.slice Ao16 t342.length co16, .bool t345, .int .i64 ji32] 24 (0, 0)) (bp_1 BK348 NB348_357) hb); replace BK357 := Aside0.mk (blk_below (g := gb357) (o := .cells #[.slice Ao51 t358.length co51, .bool t361, .int .i64 t362] 24 (0, 0)) (bp_0 BK357) hb); replace HB := Aside0.mk (below_step (bl_4 HB GE339 GE340 GE348 GE357) hb); (try clear hb)) | ((with_reducible refine gate_dst (N := 13) rfl ?_); refine bx_ 13 #[.int .u64 0, .int .i64 0] 27 ?_; intro gb367 hg w54 hbox hb; replace HO_349000 := Aside0.mk (Kd.R_below (by (with_reducible repeat (first | apply Kd.R_alloc | apply Kd.R_drewN | apply Kd.R_drew)); exact HO_349000.out) hb); replace HO353 := Aside0.mk (Kd.R_below (by (with_reducible repeat (first | apply Kd.R_alloc | apply Kd.R_drewN | apply Kd.R_drew)); exact HO353.out) hb); replace HO360 := Aside0.mk (Kd.R_below (by (with_reducible repeat (first | apply Kd.R_alloc | apply Kd.R_drewN | apply Kd.R_drew)); exact HO360.out) hb); have BK367 := Aside0.mk (hbox); have GE367 := Aside0.mk (bs_4 hg HB GE339 GE340 GE348 GE357); replace HB := Aside0.mk (below_step (bl_4 HB GE339 GE340 GE348 GE357) hb); have NB339_367 := Aside0.mk (nb_ hg BK339); have NB367_339 := Aside0.mk (nc_ hg BK339); replace BK339 := Aside0.mk (bb_ BK339 hb); have NB340_367 := Aside0.mk (nb_ hg BK340); have NB367_340 := Aside0.mk (nc_ hg BK340); replace BK340 := Aside0.mk (bb_ BK340 hb); have NB348_367 := Aside0.mk (nb_ hg BK348); have NB367_348 := Aside0.mk (nc_ hg BK348); replace BK348 := Aside0.mk (bb_ BK348 hb); have NB357_367 := Aside0.mk (nb_ hg BK357); have NB367_357 := Aside0.mk (nc_ hg BK357); replace BK357 := Aside0.mk (bb_ BK357 hb); clear hb hbox hg; have hnb55 := NB367_339.out; have hnc55 := NB339_367.out; have hnb56 := NB367_340.out; have hnc56 := NB340_367.out; have hnb57 := NB367_348.out; have hnc57 := NB348_367.out; have hnb58 := NB367_357.out; have hnc58 := NB357_367.out; obtain ⟨hcz59_0, hcz59_1, hfz59_0, hfz59_1⟩ := c2_ BK367; obtain ⟨hcz60_0, hcz60_1, hfz60_0, hfz60_1⟩ := c2_ BK340))
    go_ret
    exact ⟨by first | rfl | (simp [errW_none, errW_some] <;> rfl) | (simp only [← hji32]; first | rfl | (simp [errW_none, errW_some] <;> rfl)) | (simp [*, errW_none, errW_some] <;> rfl), bl_5 HB GE339 GE340 GE348 GE357 GE367⟩
   rw [if_neg c37] at H
   have c37b0 : (t364 == a1_0 && (t365 == a1_1)) = false := by simpa using c37
   (try (have c37b1 : decide (t364 = a1_0 && (t365 == a1_1)) = false := by simpa using c37))
   (try (have c37b2 : (t364 == a1_0 && (t365 == a1_1)) = false := by simpa using c37))
   (try (have c37b3 : ¬ (t364 = a1_0 && (t365 == a1_1)) := by simpa using c37))
   clear c37
   by_cases c61 : (t364 == a0_0 && (t365 == a0_1)) = true
   rotate_left
   ·rw [if_neg c61] at H
    have c61b0 : (t364 == a0_0 && (t365 == a0_1)) = false := by simpa using c61
    (try (have c61b1 : decide (t364 = a0_0 && (t365 == a0_1)) = false := by simpa using c61))
    (try (have c61b2 : (t364 == a0_0 && (t365 == a0_1)) = false := by simpa using c61))
    (try (have c61b3 : ¬ (t364 = a0_0 && (t365 == a0_1)) := by simpa using c61))
    clear c61
    exact absurd (H.trans (congrArg some hr)) (by simp)
   rw [if_pos c61] at H
   have c61b0 : (t364 == a0_0 && (t365 == a0_1)) = true := c61
   (try (have c61b1 : decide (t364 = a0_0 && (t365 == a0_1)) = true := by simpa using c61))
   (try (have c61b2 : (t364 == a0_0 && (t365 == a0_1)) = true := by simpa using c61))
   clear c61
   obtain rfl := Option.some.inj H
   have hnb62 := NB348_339.out
   have hnc62 := NB339_348.out
   have hnb63 := NB348_340.out
   have hnc63 := NB340_348.out
   obtain ⟨hcz64_0, hcz64_1, hcz64_2, hfz64_0, hfz64_1, hfz64_2⟩ := c3_ BK348
   have hnb65 := NB340_339.out
   have hnc65 := NB339_340.out
   obtain ⟨hcz66_0, hcz66_1, hfz66_0, hfz66_1⟩ := c2_ BK340
   go_wp2_with (first | ((with_reducible refine gate_callee (f := 17) rfl ?_); refine goesL_ (some 40) rfl rfl Try.func17 (by kernel_rfl) rfl #[.agg #[.slice Ao16 t342.length co16, .bool t345, .int .i64 ji32], .agg #[.int .u64 a1_0, .int .i64 a1_1]] rfl (by (try simp only [List.map_toArray, List.map_cons, List.map_nil]); first | done | (simp only [hji32]; rfl) | rfl | (simp only [List.length_drop, List.length_take]; rfl)) ?_; (with_reducible refine (hard_Save.calls kj7 _ _ t342 t345 ji32 a1_0 a1_1 t351 t354 t355 t356 _ ?side1 ?side2 A33.out).mono ?_); (case side1 => refine (Kd.R_reads' (e := 71) (base := w.heap.size) (ok := fun k_ => True) (n := t342.length) (c := co16) ?_).2.2; exact (by (with_reducible repeat (first | apply Kd.R_alloc | apply Kd.R_drewN | apply Kd.R_drew)); exact (Kd.R_mono (Kd.R_far (p := ⟨gb348, 2, none⟩) (Kd.R_types HO_349000.out BK348.out (by decide)) (fun _ hk => hk.2) (.int .i64 ji32)) (fun _ h_ => h_.1)))); (case side2 => exact (Kd.R_reads' HO_349000.out).2.1); rintro e w67 ⟨v352, rfl, ho0, hb⟩; refine ⟨_, rfl, ?_⟩; have HO353 := Aside0.mk (Kd.R_lower (Kd.R_new' ho0 (Kd.R_lt (by (with_reducible repeat (first | apply Kd.R_alloc | apply Kd.R_drewN | apply Kd.R_drew)); exact (Kd.R_mono (Kd.R_far (p := ⟨gb348, 2, none⟩) (Kd.R_types HO_349000.out BK348.out (by decide)) (fun _ hk => hk.2) (.int .i64 ji32)) (fun _ h_ => h_.1))))) (below_size (bl_3 HB GE339 GE340 GE348))); replace HO_349000 := Aside0.mk (Kd.R_elder' (by (with_reducible repeat (first | apply Kd.R_alloc | apply Kd.R_drewN | apply Kd.R_drew)); exact (Kd.R_mono (Kd.R_far (p := ⟨gb348, 2, none⟩) (Kd.R_types HO_349000.out BK348.out (by decide)) (fun _ hk => hk.2) (.int .i64 ji32)) (fun _ h_ => h_.1))) (Kd.R_base ho0) hb); replace BK339 := Aside0.mk (blk_below (g := gb339) (o := .cells #[.int .u64 a0_0, .int .i64 a0_1] 27 (0, 0)) (bp_1 BK339 NB339_348) hb); replace BK340 := Aside0.mk (blk_below (g := gb340) (o := .cells #[.int .u64 a1_0, .int .i64 a1_1] 27 (0, 0)) (bp_1 BK340 NB340_348) hb); replace BK348 := Aside0.mk (blk_below (g := gb348) (o := .cells #[.slice Ao16 t342.length co16, .bool t345, .int .i64 ji32] 24 (0, 0)) (bp_0 BK348) hb); replace HB := Aside0.mk (below_step (bl_3 HB GE339 GE340 GE348) hb); (try clear hb); (try clear ho0)) | ((with_reducible refine gate_dst (N := 11) rfl ?_); refine bx_ 11 #[.slice none 0 0, .bool false, .int .i64 0] 24 ?_; intro gb357 hg w68 hbox hb; replace HO_349000 := Aside0.mk (Kd.R_below (by (with_reducible repeat (first | apply Kd.R_alloc | apply Kd.R_drewN | apply Kd.R_drew)); exact HO_349000.out) hb); replace HO353 := Aside0.mk (Kd.R_below (by (with_reducible repeat (first | apply Kd.R_alloc | apply Kd.R_drewN | apply Kd.R_drew)); exact HO353.out) hb); have BK357 := Aside0.mk (hbox); have GE357 := Aside0.mk (bs_3 hg HB GE339 GE340 GE348); replace HB := Aside0.mk (below_step (bl_3 HB GE339 GE340 GE348) hb); have NB339_357 := Aside0.mk (nb_ hg BK339); have NB357_339 := Aside0.mk (nc_ hg BK339); replace BK339 := Aside0.mk (bb_ BK339 hb); have NB340_357 := Aside0.mk (nb_ hg BK340); have NB357_340 := Aside0.mk (nc_ hg BK340); replace BK340 := Aside0.mk (bb_ BK340 hb); have NB348_357 := Aside0.mk (nb_ hg BK348); have NB357_348 := Aside0.mk (nc_ hg BK348); replace BK348 := Aside0.mk (bb_ BK348 hb); clear hb hbox hg; obtain ⟨Ao69, co69, eo69⟩ := Kd.R_slice HO353.out; subst eo69; have hnb70 := NB357_339.out; have hnc70 := NB339_357.out; have hnb71 := NB357_340.out; have hnc71 := NB340_357.out; have hnb72 := NB357_348.out; have hnc72 := NB348_357.out; obtain ⟨hcz73_0, hcz73_1, hcz73_2, hfz73_0, hfz73_1, hfz73_2⟩ := c3_ BK357) | ((with_reducible refine gate_callee (f := 23) rfl ?_); refine goesL_ (some 46) rfl rfl Try.func23 (by kernel_rfl) rfl #[.agg #[.slice Ao69 t351.length co69, .bool t354, .int .i64 t355], .slice A3 l3.length c3] rfl (ar_) ?_; (with_reducible refine (disk_Crash.calls kj7 _ _ t351 t354 t355 _ _ l3 t358 t361 t362 t363 _ ?side1 ?side2 ?side3 ?side4 A34.out).mono ?_); (case side1 => refine (Kd.R_reads' (e := 71) (base := w.heap.size) (ok := fun k_ => (True ∧ some k_ ≠ (.slice Ao16 t342.length co16 : Value).ownBlock)) (n := t351.length) (c := co69) ?_).2.2; exact (by (with_reducible repeat (first | apply Kd.R_alloc | apply Kd.R_drewN | apply Kd.R_drew)); exact (Kd.R_mono (Kd.R_far (p := ⟨gb357, 2, none⟩) (Kd.R_far (p := ⟨gb357, 1, none⟩) (Kd.R_far (p := ⟨gb357, 0, none⟩) (Kd.R_types HO353.out BK357.out (by decide)) (fun _ hk => hk.2) (.slice Ao69 t351.length co69)) (fun _ hk => hk.2) (.bool t354)) (fun _ hk => hk.2) (.int .i64 t355)) (fun _ h_ => h_.1)))); (case side2 => exact (Kd.R_reads' HO353.out).2.1); (case side3 => exact Kd.C_below HR3.out (bl_4 HB GE339 GE340 GE348 GE357)); (case side4 => exact HC3.out); rintro e w74 ⟨v359, rfl, ho0, hb⟩; refine ⟨_, rfl, ?_⟩; have HO360 := Aside0.mk (Kd.R_lower (Kd.R_new' (Kd.R_new' ho0 (Kd.R_lt (by (with_reducible repeat (first | apply Kd.R_alloc | apply Kd.R_drewN | apply Kd.R_drew)); exact (Kd.R_mono (Kd.R_far (p := ⟨gb357, 2, none⟩) (Kd.R_far (p := ⟨gb357, 1, none⟩) (Kd.R_far (p := ⟨gb357, 0, none⟩) (Kd.R_types HO_349000.out BK357.out (by decide)) (fun _ hk => hk.2) (.slice Ao69 t351.length co69)) (fun _ hk => hk.2) (.bool t354)) (fun _ hk => hk.2) (.int .i64 t355)) (fun _ h_ => h_.1))))) (Kd.R_lt (by (with_reducible repeat (first | apply Kd.R_alloc | apply Kd.R_drewN | apply Kd.R_drew)); exact (Kd.R_mono (Kd.R_far (p := ⟨gb357, 2, none⟩) (Kd.R_far (p := ⟨gb357, 1, none⟩) (Kd.R_far (p := ⟨gb357, 0, none⟩) (Kd.R_types HO353.out BK357.out (by decide)) (fun _ hk => hk.2) (.slice Ao69 t351.length co69)) (fun _ hk => hk.2) (.bool t354)) (fun _ hk => hk.2) (.int .i64 t355)) (fun _ h_ => h_.1))))) (below_size (bl_4 HB GE339 GE340 GE348 GE357))); replace HO_349000 := Aside0.mk (Kd.R_elder' (by (with_reducible repeat (first | apply Kd.R_alloc | apply Kd.R_drewN | apply Kd.R_drew)); exact (Kd.R_mono (Kd.R_far (p := ⟨gb357, 2, none⟩) (Kd.R_far (p := ⟨gb357, 1, none⟩) (Kd.R_far (p := ⟨gb357, 0, none⟩) (Kd.R_types HO_349000.out BK357.out (by decide)) (fun _ hk => hk.2) (.slice Ao69 t351.length co69)) (fun _ hk => hk.2) (.bool t354)) (fun _ hk => hk.2) (.int .i64 t355)) (fun _ h_ => h_.1))) (Kd.R_base ho0) hb); replace HO353 := Aside0.mk (Kd.R_elder' (by (with_reducible repeat (first | apply Kd.R_alloc | apply Kd.R_drewN | apply Kd.R_drew)); exact (Kd.R_mono (Kd.R_far (p := ⟨gb357, 2, none⟩) (Kd.R_far (p := ⟨gb357, 1, none⟩) (Kd.R_far (p := ⟨gb357, 0, none⟩) (Kd.R_types HO353.out BK357.out (by decide)) (fun _ hk => hk.2) (.slice Ao69 t351.length co69)) (fun _ hk => hk.2) (.bool t354)) (fun _ hk => hk.2) (.int .i64 t355)) (fun _ h_ => h_.1))) (Kd.R_base ho0) hb); replace BK339 := Aside0.mk (blk_below (g := gb339) (o := .cells #[.int .u64 a0_0, .int .i64 a0_1] 27 (0, 0)) (bp_1 BK339 NB339_357) hb); replace BK340 := Aside0.mk (blk_below (g := gb340) (o := .cells #[.int .u64 a1_0, .int .i64 a1_1] 27 (0, 0)) (bp_1 BK340 NB340_357) hb); replace BK348 := Aside0.mk (blk_below (g := gb348) (o := .cells #[.slice Ao16 t342.length co16, .bool t345, .int .i64 ji32] 24 (0, 0)) (bp_1 BK348 NB348_357) hb); replace BK357 := Aside0.mk (blk_below (g := gb357) (o := .cells #[.slice Ao69 t351.length co69, .bool t354, .int .i64 t355] 24 (0, 0)) (bp_0 BK357) hb); replace HB := Aside0.mk (below_step (bl_4 HB GE339 GE340 GE348 GE357) hb); (try clear hb); (try clear ho0); obtain ⟨Ao75, co75, eo75⟩ := Kd.R_slice HO360.out; subst eo75; obtain ⟨hcz76_0, hcz76_1, hcz76_2, hfz76_0, hfz76_1, hfz76_2⟩ := c3_ BK357) | ((with_reducible refine gate_callee (f := 15) rfl ?_); refine goesL_ (some 51) rfl rfl Try.func15 (by kernel_rfl) rfl #[.agg #[.slice Ao75 t358.length co75, .bool t361, .int .i64 t362]] rfl (ar_) ?_; (with_reducible refine (hard_Load.calls kj7 _ _ t358 t361 t362 t364 t365 t366 _ ?side1 ?side2 A35.out).mono ?_); (case side1 => refine (Kd.R_reads' (e := 71) (base := w.heap.size) (ok := fun k_ => ((True ∧ some k_ ≠ (.slice Ao16 t342.length co16 : Value).ownBlock) ∧ some k_ ≠ (.slice Ao69 t351.length co69 : Value).ownBlock)) (n := t358.length) (c := co75) ?_).2.2; exact (by (with_reducible repeat (first | apply Kd.R_alloc | apply Kd.R_drewN | apply Kd.R_drew)); exact (Kd.R_mono (Kd.R_far (p := ⟨gb357, 2, none⟩) (Kd.R_far (p := ⟨gb357, 1, none⟩) (Kd.R_far (p := ⟨gb357, 0, none⟩) (Kd.R_types HO360.out BK357.out (by decide)) (fun _ hk => hk.2) (.slice Ao75 t358.length co75)) (fun _ hk => hk.2) (.bool t361)) (fun _ hk => hk.2) (.int .i64 t362)) (fun _ h_ => h_.1)))); (case side2 => exact (Kd.R_reads' HO360.out).2.1); rintro e w77 ⟨rfl, hb⟩; refine ⟨_, rfl, ?_⟩; replace HO_349000 := Aside0.mk (Kd.R_below (by (with_reducible repeat (first | apply Kd.R_alloc | apply Kd.R_drewN | apply Kd.R_drew)); exact (Kd.R_mono (Kd.R_far (p := ⟨gb357, 2, none⟩) (Kd.R_far (p := ⟨gb357, 1, none⟩) (Kd.R_far (p := ⟨gb357, 0, none⟩) (Kd.R_types HO_349000.out BK357.out (by decide)) (fun _ hk => hk.2) (.slice Ao75 t358.length co75)) (fun _ hk => hk.2) (.bool t361)) (fun _ hk => hk.2) (.int .i64 t362)) (fun _ h_ => h_.1))) hb); replace HO353 := Aside0.mk (Kd.R_below (by (with_reducible repeat (first | apply Kd.R_alloc | apply Kd.R_drewN | apply Kd.R_drew)); exact (Kd.R_mono (Kd.R_far (p := ⟨gb357, 2, none⟩) (Kd.R_far (p := ⟨gb357, 1, none⟩) (Kd.R_far (p := ⟨gb357, 0, none⟩) (Kd.R_types HO353.out BK357.out (by decide)) (fun _ hk => hk.2) (.slice Ao75 t358.length co75)) (fun _ hk => hk.2) (.bool t361)) (fun _ hk => hk.2) (.int .i64 t362)) (fun _ h_ => h_.1))) hb); replace HO360 := Aside0.mk (Kd.R_below (by (with_reducible repeat (first | apply Kd.R_alloc | apply Kd.R_drewN | apply Kd.R_drew)); exact (Kd.R_mono (Kd.R_far (p := ⟨gb357, 2, none⟩) (Kd.R_far (p := ⟨gb357, 1, none⟩) (Kd.R_far (p := ⟨gb357, 0, none⟩) (Kd.R_types HO360.out BK357.out (by decide)) (fun _ hk => hk.2) (.slice Ao75 t358.length co75)) (fun _ hk => hk.2) (.bool t361)) (fun _ hk => hk.2) (.int .i64 t362)) (fun _ h_ => h_.1))) hb); replace BK339 := Aside0.mk (blk_below (g := gb339) (o := .cells #[.int .u64 a0_0, .int .i64 a0_1] 27 (0, 0)) (bp_1 BK339 NB339_357) hb); replace BK340 := Aside0.mk (blk_below (g := gb340) (o := .cells #[.int .u64 a1_0, .int .i64 a1_1] 27 (0, 0)) (bp_1 BK340 NB340_357) hb); replace BK348 := Aside0.mk (blk_below (g := gb348) (o := .cells #[.slice Ao16 t342.length co16, .bool t345, .int .i64 ji32] 24 (0, 0)) (bp_1 BK348 NB348_357) hb); replace BK357 := Aside0.mk (blk_below (g := gb357) (o := .cells #[.slice Ao75 t358.length co75, .bool t361, .int .i64 t362] 24 (0, 0)) (bp_0 BK357) hb); replace HB := Aside0.mk (below_step (bl_4 HB GE339 GE340 GE348 GE357) hb); (try clear hb)) | ((with_reducible refine gate_dst (N := 13) rfl ?_); refine bx_ 13 #[.int .u64 0, .int .i64 0] 27 ?_; intro gb367 hg w78 hbox hb; replace HO_349000 := Aside0.mk (Kd.R_below (by (with_reducible repeat (first | apply Kd.R_alloc | apply Kd.R_drewN | apply Kd.R_drew)); exact HO_349000.out) hb); replace HO353 := Aside0.mk (Kd.R_below (by (with_reducible repeat (first | apply Kd.R_alloc | apply Kd.R_drewN | apply Kd.R_drew)); exact HO353.out) hb); replace HO360 := Aside0.mk (Kd.R_below (by (with_reducible repeat (first | apply Kd.R_alloc | apply Kd.R_drewN | apply Kd.R_drew)); exact HO360.out) hb); have BK367 := Aside0.mk (hbox); have GE367 := Aside0.mk (bs_4 hg HB GE339 GE340 GE348 GE357); replace HB := Aside0.mk (below_step (bl_4 HB GE339 GE340 GE348 GE357) hb); have NB339_367 := Aside0.mk (nb_ hg BK339); have NB367_339 := Aside0.mk (nc_ hg BK339); replace BK339 := Aside0.mk (bb_ BK339 hb); have NB340_367 := Aside0.mk (nb_ hg BK340); have NB367_340 := Aside0.mk (nc_ hg BK340); replace BK340 := Aside0.mk (bb_ BK340 hb); have NB348_367 := Aside0.mk (nb_ hg BK348); have NB367_348 := Aside0.mk (nc_ hg BK348); replace BK348 := Aside0.mk (bb_ BK348 hb); have NB357_367 := Aside0.mk (nb_ hg BK357); have NB367_357 := Aside0.mk (nc_ hg BK357); replace BK357 := Aside0.mk (bb_ BK357 hb); clear hb hbox hg; have hnb79 := NB367_339.out; have hnc79 := NB339_367.out; have hnb80 := NB367_340.out; have hnc80 := NB340_367.out; have hnb81 := NB367_348.out; have hnc81 := NB348_367.out; have hnb82 := NB367_357.out; have hnc82 := NB357_367.out; obtain ⟨hcz83_0, hcz83_1, hfz83_0, hfz83_1⟩ := c2_ BK367; obtain ⟨hcz84_0, hcz84_1, hfz84_0, hfz84_1⟩ := c2_ BK340; obtain ⟨hcz85_0, hcz85_1, hfz85_0, hfz85_1⟩ := c2_ BK339))
   go_ret
   exact ⟨by first | rfl | (simp [errW_none, errW_some] <;> rfl) | (simp only [← hji32]; first | rfl | (simp [errW_none, errW_some] <;> rfl)) | (simp [*, errW_none, errW_some] <;> rfl), bl_5 HB GE339 GE340 GE348 GE357 GE367⟩
/-- THE ONE PURE STATEMENT of gafferlaw04_HardTwo: yours. -/
def gafferlaw04_HardTwo.Pure : Prop := ∀ (x0 : S27) (x1 : S27) (x2 : Int) (x3 : List Int), ok27 x0 → ok27 x1 → (okInt .i64) x2 → (okSl 8 (okInt .i64)) x3 → ∃ k, gafferlaw04_HardTwo.f k x0.f0 x0.f1 x1.f0 x1.f1 x2 x3 = some true

/-! ### gafferlaw04_HardOne: function 4 -/
mutual
def gafferlaw04_HardOne.j0 : Nat → Int → List Int → Bool → List (S71) → Bool → Int → Int → Int → Int → Int → Option (Bool)
 | 0, _, _, _, _, _, _, _, _, _, _ => none
 | k + 1, x2, x3, x33, x369000, x369001, x369002, x370000, x370001, x381000, x381001 => if x33 = true then (some true) else ((hard_Save.f k x369000 x369001 (mx x2 (-1)) x370000 x370001).bind fun bt382 => (if bt382.2.2.2 = 0 then (gafferlaw04_HardOne.j1 k x3 bt382.2.2.2 false x370000 x370001 x381000 x381001 bt382.1 bt382.2.1 bt382.2.2.1) else (gafferlaw04_HardOne.j1 k x3 bt382.2.2.2 (bt382.2.2.2 != 8) x370000 x370001 x381000 x381001 bt382.1 bt382.2.1 bt382.2.2.1)))
def gafferlaw04_HardOne.j1 : Nat → List Int → Int → Bool → Int → Int → Int → Int → List (S71) → Bool → Int → Option (Bool)
 | 0, _, _, _, _, _, _, _, _, _, _ => none
 | k + 1, x3, x12, x48, x370000, x370001, x381000, x381001, x389000, x389001, x389002 => if x48 = true then (some (x12 == 11)) else ((disk_Crash.f k x389000 x389001 x389002 x3).bind fun bt389 => ((hard_Load.f k bt389.1 bt389.2.1 bt389.2.2.1).bind fun bt395 => (if bt395.2.2 = 0 then (if (bt395.1 == x370000 && (bt395.2.1 == x370001)) = true then (some true) else (if (bt395.1 == x381000 && (bt395.2.1 == x381001)) = true then (some (x12 != 0)) else (some false))) else (some false))))
end
def gafferlaw04_HardOne.f (k : Nat) (l0_0 : List (S71)) (a0_1 : Bool) (a0_2 : Int) (a1_0 : Int) (a1_1 : Int) (a2 : Int) (l3 : List Int) : Option (Bool) := (gafferlaw04_lives.f k).bind fun t370 => (if t370 = true then ((disk_Crash.f k l0_0 a0_1 a0_2 ([] : List Int)).bind fun bt371 => ((hard_Load.f k bt371.1 bt371.2.1 bt371.2.2.1).bind fun bt377 => (if bt377.2.2 = 0 then ((hard_Check.f a1_0 a1_1).bind fun t381 => (gafferlaw04_HardOne.j0 k a2 l3 (t381 != 0) bt371.1 bt371.2.1 bt371.2.2.1 a1_0 a1_1 bt377.1 bt377.2.1)) else (gafferlaw04_HardOne.j0 k a2 l3 true bt371.1 bt371.2.1 bt371.2.2.1 a1_0 a1_1 bt377.1 bt377.2.1)))) else (some false))
theorem gafferlaw04_HardOne.mono_l : ∀ k, (∀ y0 y1 y2 y3 y4 y5 y6 y7 y8 y9, LeO (gafferlaw04_HardOne.j0 k y0 y1 y2 y3 y4 y5 y6 y7 y8 y9) (gafferlaw04_HardOne.j0 (k + 1) y0 y1 y2 y3 y4 y5 y6 y7 y8 y9)) ∧ (∀ y0 y1 y2 y3 y4 y5 y6 y7 y8 y9, LeO (gafferlaw04_HardOne.j1 k y0 y1 y2 y3 y4 y5 y6 y7 y8 y9) (gafferlaw04_HardOne.j1 (k + 1) y0 y1 y2 y3 y4 y5 y6 y7 y8 y9))
 | 0 => ⟨fun _ _ _ _ _ _ _ _ _ _ r h => by simp [gafferlaw04_HardOne.j0] at h, fun _ _ _ _ _ _ _ _ _ _ r h => by simp [gafferlaw04_HardOne.j1] at h⟩
 | k + 1 => by
  obtain ⟨ih0, ih1⟩ := gafferlaw04_HardOne.mono_l k
  refine ⟨?_, ?_⟩
  ·intro y0 y1 y2 y3 y4 y5 y6 y7 y8 y9
   unfold gafferlaw04_HardOne.j0
   repeat' first | (with_reducible first | exact ih0 _ _ _ _ _ _ _ _ _ _ | exact ih1 _ _ _ _ _ _ _ _ _ _ | exact disk_Crash.mono _ _ _ _ _ | exact gafferlaw04_lives.mono _ | exact hard_Load.mono _ _ _ _ | exact hard_Save.mono _ _ _ _ _ _ | exact LeO.refl _ | exact LeO.none _ | refine LeO.ite ?_ ?_ | refine LeO.bind ?_ (fun _ => ?_)) | exact ih0 _ _ _ _ _ _ _ _ _ _ | exact ih1 _ _ _ _ _ _ _ _ _ _ | exact disk_Crash.mono _ _ _ _ _ | exact gafferlaw04_lives.mono _ | exact hard_Load.mono _ _ _ _ | exact hard_Save.mono _ _ _ _ _ _ | exact LeO.none _ | refine LeO.ite ?_ ?_ | refine LeO.bind ?_ (fun _ => ?_)
  ·intro y0 y1 y2 y3 y4 y5 y6 y7 y8 y9
   unfold gafferlaw04_HardOne.j1
   repeat' first | (with_reducible first | exact ih0 _ _ _ _ _ _ _ _ _ _ | exact ih1 _ _ _ _ _ _ _ _ _ _ | exact disk_Crash.mono _ _ _ _ _ | exact gafferlaw04_lives.mono _ | exact hard_Load.mono _ _ _ _ | exact hard_Save.mono _ _ _ _ _ _ | exact LeO.refl _ | exact LeO.none _ | refine LeO.ite ?_ ?_ | refine LeO.bind ?_ (fun _ => ?_)) | exact ih0 _ _ _ _ _ _ _ _ _ _ | exact ih1 _ _ _ _ _ _ _ _ _ _ | exact disk_Crash.mono _ _ _ _ _ | exact gafferlaw04_lives.mono _ | exact hard_Load.mono _ _ _ _ | exact hard_Save.mono _ _ _ _ _ _ | exact LeO.none _ | refine LeO.ite ?_ ?_ | refine LeO.bind ?_ (fun _ => ?_)
theorem gafferlaw04_HardOne.mono : ∀ a0 a1 a2 a3 a4 a5 a6 k, LeO (gafferlaw04_HardOne.f k a0 a1 a2 a3 a4 a5 a6) (gafferlaw04_HardOne.f (k + 1) a0 a1 a2 a3 a4 a5 a6) := by
 intro a0 a1 a2 a3 a4 a5 a6 k
 obtain ⟨ih0, ih1⟩ := gafferlaw04_HardOne.mono_l k
 unfold gafferlaw04_HardOne.f
 repeat' first | (with_reducible first | exact ih0 _ _ _ _ _ _ _ _ _ _ | exact ih1 _ _ _ _ _ _ _ _ _ _ | exact disk_Crash.mono _ _ _ _ _ | exact gafferlaw04_lives.mono _ | exact hard_Load.mono _ _ _ _ | exact hard_Save.mono _ _ _ _ _ _ | exact LeO.refl _ | exact LeO.none _ | refine LeO.ite ?_ ?_ | refine LeO.bind ?_ (fun _ => ?_)) | exact ih0 _ _ _ _ _ _ _ _ _ _ | exact ih1 _ _ _ _ _ _ _ _ _ _ | exact disk_Crash.mono _ _ _ _ _ | exact gafferlaw04_lives.mono _ | exact hard_Load.mono _ _ _ _ | exact hard_Save.mono _ _ _ _ _ _ | exact LeO.none _ | refine LeO.ite ?_ ?_ | refine LeO.bind ?_ (fun _ => ?_)
set_option maxHeartbeats 80000000 in
set_option maxRecDepth 100000 in
theorem gafferlaw04_HardOne.calls (k : Nat) (A0_0 : Option Addr) (c0_0 : Nat) (l0_0 : List (S71)) (a0_1 : Bool) (a0_2 : Int) (a1_0 : Int) (a1_1 : Int) (a2 : Int) (A3 : Option Addr) (c3 : Nat) (l3 : List Int) (r : Bool) (w : World) (hr0_0 : Kd.C k71 w A0_0 l0_0.length l0_0) (hc0_0 : l0_0.length ≤ c0_0) (hr3 : Kd.C (Kd.int .i64) w A3 l3.length l3) (hc3 : l3.length ≤ c3) (h : gafferlaw04_HardOne.f k l0_0 a0_1 a0_2 a1_0 a1_1 a2 l3 = some r) (hr : r = true) :
  Calls Try.prog 4 #[.agg #[.slice A0_0 l0_0.length c0_0, .bool a0_1, .int .i64 a0_2], .agg #[.int .u64 a1_0, .int .i64 a1_1], .int .i64 a2, .slice A3 l3.length c3] w fun e w' => e = .returned (.bool r) ∧ Below w.heap.size w w' := by
 have hu24 := Try.underlying24
 have hu27 := Try.underlying27
 have HR0_0 := Aside0.mk hr0_0
 have HC0_0 := Aside0.mk hc0_0
 clear hr0_0 hc0_0
 have HR3 := Aside0.mk hr3
 have HC3 := Aside0.mk hc3
 clear hr3 hc3
 have HB := Aside0.mk (Below.refl w.heap.size w)
 have H : ((gafferlaw04_lives.f k).bind fun t370 => (if t370 = true then ((disk_Crash.f k l0_0 a0_1 a0_2 ([] : List Int)).bind fun bt371 => ((hard_Load.f k bt371.1 bt371.2.1 bt371.2.2.1).bind fun bt377 => (if bt377.2.2 = 0 then ((hard_Check.f a1_0 a1_1).bind fun t381 => (gafferlaw04_HardOne.j0 k a2 l3 (t381 != 0) bt371.1 bt371.2.1 bt371.2.2.1 a1_0 a1_1 bt377.1 bt377.2.1)) else (gafferlaw04_HardOne.j0 k a2 l3 true bt371.1 bt371.2.1 bt371.2.2.1 a1_0 a1_1 bt377.1 bt377.2.1)))) else (some false))) = some r := h
 clear h
 obtain ⟨t370, A50, H⟩ := Option.bind_eq_some_iff.mp H
 try dsimp only at H
 have A5 := Aside0.mk A50
 clear A50
 by_cases c6 : t370 = true
 rotate_left
 ·replace c6 := Bool.eq_false_iff.mpr c6
  subst c6
  have H1 : (some false) = some r := by rw [if_neg (show ¬ (false = true) by decide)] at H; exact H
  clear H
  have H := H1
  clear H1
  exact absurd (H.trans (congrArg some hr)) (by simp)

 subst c6
 have H1 : ((disk_Crash.f k l0_0 a0_1 a0_2 ([] : List Int)).bind fun bt371 => ((hard_Load.f k bt371.1 bt371.2.1 bt371.2.2.1).bind fun bt377 => (if bt377.2.2 = 0 then ((hard_Check.f a1_0 a1_1).bind fun t381 => (gafferlaw04_HardOne.j0 k a2 l3 (t381 != 0) bt371.1 bt371.2.1 bt371.2.2.1 a1_0 a1_1 bt377.1 bt377.2.1)) else (gafferlaw04_HardOne.j0 k a2 l3 true bt371.1 bt371.2.1 bt371.2.2.1 a1_0 a1_1 bt377.1 bt377.2.1)))) = some r := by rw [if_pos rfl] at H; exact H
 clear H
 have H := H1
 clear H1
 obtain ⟨⟨t371, t374, t375, t376⟩, A70, H⟩ := Option.bind_eq_some_iff.mp H
 try dsimp only at H
 have A7 := Aside0.mk A70
 clear A70
 obtain ⟨⟨t377, t378, t379⟩, A80, H⟩ := Option.bind_eq_some_iff.mp H
 try dsimp only at H
 have A8 := Aside0.mk A80
 clear A80
 have HC9 := Aside0.mk H
 clear H
 go_enter Try.func4, Try.ntmps4
 go_upto_region 5 with (first | ((with_reducible refine gate_dst (N := 4) rfl ?_); refine bx_ 4 #[.slice A0_0 l0_0.length c0_0, .bool a0_1, .int .i64 a0_2] 24 ?_; intro gb368 hg w10 hbox hb; have BK368 := Aside0.mk (hbox); have GE368 := Aside0.mk (bs_0 hg HB); replace HB := Aside0.mk (below_step (bl_ HB) hb); clear hb hbox hg) | ((with_reducible refine gate_dst (N := 5) rfl ?_); refine bx_ 5 #[.int .u64 a1_0, .int .i64 a1_1] 27 ?_; intro gb369 hg w11 hbox hb; have BK369 := Aside0.mk (hbox); have GE369 := Aside0.mk (bs_1 hg HB GE368); replace HB := Aside0.mk (below_step (bl_1 HB GE368) hb); have NB368_369 := Aside0.mk (nb_ hg BK368); have NB369_368 := Aside0.mk (nc_ hg BK368); replace BK368 := Aside0.mk (bb_ BK368 hb); clear hb hbox hg) | ((with_reducible refine gate_callee (f := 19) rfl ?_); refine goesL_ (some 15) rfl rfl Try.func19 (by kernel_rfl) rfl #[] rfl (ar_) ?_; (with_reducible refine (gafferlaw04_lives.calls k  true _ A5.out).mono ?_); rintro e w12 ⟨rfl, hb⟩; refine ⟨_, rfl, ?_⟩; replace BK368 := Aside0.mk (bb_ BK368 hb); replace BK369 := Aside0.mk (bb_ BK369 hb); replace HB := Aside0.mk (below_step (bl_2 HB GE368 GE369) hb); (try clear hb); have hnb13 := NB368_369.out; have hnc13 := NB369_368.out; obtain ⟨hcz14_0, hcz14_1, hcz14_2, hfz14_0, hfz14_1, hfz14_2⟩ := c3_ BK368) | ((with_reducible refine gate_callee (f := 23) rfl ?_); refine goesL_ (some 19) rfl rfl Try.func23 (by kernel_rfl) rfl #[.agg #[.slice A0_0 l0_0.length c0_0, .bool a0_1, .int .i64 a0_2], .slice none 0 0] rfl (ar_) ?_; (refine (disk_Crash.calls k _ _ l0_0 a0_1 a0_2 _ _ ([] : List Int) t371 t374 t375 t376 _ ?side1 ?side2 ?side3 ?side4 A7.out).mono ?_); (case side1 => exact cl_ (Kd.C_below HR0_0.out HB.out)); (case side2 => exact HC0_0.out); (case side3 => exact Kd.C_nil _ _); (case side4 => exact Nat.le_refl _); rintro e w15 ⟨v372, rfl, ho0, hb⟩; (try clear A7); refine ⟨_, rfl, ?_⟩; have HO373 := Aside0.mk (Kd.R_lower ho0 (below_size (bl_2 HB GE368 GE369))); replace BK368 := Aside0.mk (bb_ BK368 hb); replace BK369 := Aside0.mk (bb_ BK369 hb); replace HB := Aside0.mk (below_step (bl_2 HB GE368 GE369) hb); (try clear hb); (try clear ho0); obtain ⟨Ao16, co16, eo16⟩ := Kd.R_slice HO373.out; subst eo16; obtain ⟨hcz17_0, hcz17_1, hcz17_2, hfz17_0, hfz17_1, hfz17_2⟩ := c3_ BK368) | ((with_reducible refine gate_callee (f := 15) rfl ?_); refine goesL_ (some 24) rfl rfl Try.func15 (by kernel_rfl) rfl #[.agg #[.slice Ao16 t371.length co16, .bool t374, .int .i64 t375]] rfl (ar_) ?_; (with_reducible refine (hard_Load.calls k _ _ t371 t374 t375 t377 t378 t379 _ ?side1 ?side2 A8.out).mono ?_); (case side1 => refine (Kd.R_reads' (e := 71) (base := w.heap.size) (ok := fun k_ => True) (n := t371.length) (c := co16) ?_).2.2; exact (by (with_reducible repeat (first | apply Kd.R_alloc | apply Kd.R_drewN | apply Kd.R_drew)); exact (Kd.R_mono (Kd.R_far (p := ⟨gb368, 2, none⟩) (Kd.R_far (p := ⟨gb368, 1, none⟩) (Kd.R_far (p := ⟨gb368, 0, none⟩) (Kd.R_types HO373.out BK368.out (by decide)) (fun _ hk => hk.2) (.slice Ao16 t371.length co16)) (fun _ hk => hk.2) (.bool t374)) (fun _ hk => hk.2) (.int .i64 t375)) (fun _ h_ => h_.1)))); (case side2 => exact (Kd.R_reads' HO373.out).2.1); rintro e w18 ⟨rfl, hb⟩; refine ⟨_, rfl, ?_⟩; replace HO373 := Aside0.mk (Kd.R_below (by (with_reducible repeat (first | apply Kd.R_alloc | apply Kd.R_drewN | apply Kd.R_drew)); exact (Kd.R_mono (Kd.R_far (p := ⟨gb368, 2, none⟩) (Kd.R_far (p := ⟨gb368, 1, none⟩) (Kd.R_far (p := ⟨gb368, 0, none⟩) (Kd.R_types HO373.out BK368.out (by decide)) (fun _ hk => hk.2) (.slice Ao16 t371.length co16)) (fun _ hk => hk.2) (.bool t374)) (fun _ hk => hk.2) (.int .i64 t375)) (fun _ h_ => h_.1))) hb); replace BK368 := Aside0.mk (blk_below (g := gb368) (o := .cells #[.slice Ao16 t371.length co16, .bool t374, .int .i64 t375] 24 (0, 0)) (bp_0 BK368) hb); replace BK369 := Aside0.mk (blk_below (g := gb369) (o := .cells #[.int .u64 a1_0, .int .i64 a1_1] 27 (0, 0)) (bp_1 BK369 NB369_368) hb); replace HB := Aside0.mk (below_step (bl_2 HB GE368 GE369) hb); (try clear hb)) | ((with_reducible refine gate_dst (N := 9) rfl ?_); refine bx_ 9 #[.int .u64 0, .int .i64 0] 27 ?_; intro gb380 hg w19 hbox hb; replace HO373 := Aside0.mk (Kd.R_below (by (with_reducible repeat (first | apply Kd.R_alloc | apply Kd.R_drewN | apply Kd.R_drew)); exact HO373.out) hb); have BK380 := Aside0.mk (hbox); have GE380 := Aside0.mk (bs_2 hg HB GE368 GE369); replace HB := Aside0.mk (below_step (bl_2 HB GE368 GE369) hb); have NB368_380 := Aside0.mk (nb_ hg BK368); have NB380_368 := Aside0.mk (nc_ hg BK368); replace BK368 := Aside0.mk (bb_ BK368 hb); have NB369_380 := Aside0.mk (nb_ hg BK369); have NB380_369 := Aside0.mk (nc_ hg BK369); replace BK369 := Aside0.mk (bb_ BK369 hb); clear hb hbox hg; have hnb20 := NB380_368.out; have hnc20 := NB368_380.out; have hnb21 := NB380_369.out; have hnc21 := NB369_380.out; obtain ⟨hcz22_0, hcz22_1, hfz22_0, hfz22_1⟩ := c2_ BK380))
 (try simp only [Act.put, List.setIfInBounds_toArray, List.set_cons_zero, List.set_cons_succ])
 go_cut [33] (fun v33 wc => ∃ (kq : Nat) (x33_8 : Bool), v33 = .bool x33_8 ∧ Aside0 (gafferlaw04_HardOne.j0 kq a2 l3 x33_8 t371 t374 t375 a1_0 a1_1 t377 t378 = some r) ∧ Aside0 (kq ≤ k) ∧ Aside0 (Kd.R k71 71 wc w.heap.size (fun _ => True) (.slice Ao16 t371.length co16) t371) ∧ Aside0 (wc.heap[gb368]? = some (.cells #[(.slice Ao16 t371.length co16), .bool t374, .int .i64 t375] 24 (0, 0))) ∧ Aside0 (wc.heap[gb369]? = some (.cells #[.int .u64 a1_0, .int .i64 a1_1] 27 (0, 0))) ∧ Aside0 (wc.heap[gb380]? = some (.cells #[.int .u64 t377, .int .i64 t378] 27 (0, 0))) ∧ Aside0 (Below w.heap.size w wc))
 case first =>
  have H := HC9.out
  clear HC9
  by_cases c23 : t379 = 0
  ·rw [if_pos c23] at H
   have c23b0 : (t379 == 0) = true := beq_iff_eq.mpr c23
   have c23b1 : (t379 != 0) = false := bne_eq_false_iff_eq.mpr c23
   clear c23
   (first | rw [c23b0] | (simp only [i64_w, i32_w]; rw [c23b0]) | skip)
   obtain ⟨t381, A240, H⟩ := Option.bind_eq_some_iff.mp H
   try dsimp only at H
   have A24 := Aside0.mk A240
   clear A240
   have H' := Aside0.mk H
   clear H
   have hnb25 := NB369_368.out
   have hnc25 := NB368_369.out
   have hnb26 := NB369_380.out
   have hnc26 := NB380_369.out
   obtain ⟨hcz27_0, hcz27_1, hfz27_0, hfz27_1⟩ := c2_ BK369
   go_wp2_with (first | (go_at_call 21; (with_reducible refine (hard_Check.calls a1_0 a1_1 t381 _ A24.out).mono ?_); rintro e w28 ⟨rfl, hb⟩; replace HO373 := Aside0.mk (Kd.R_below (by (with_reducible repeat (first | apply Kd.R_alloc | apply Kd.R_drewN | apply Kd.R_drew)); exact (Kd.R_mono (Kd.R_far (p := ⟨gb380, 1, none⟩) (Kd.R_far (p := ⟨gb380, 0, none⟩) (Kd.R_types HO373.out BK380.out (by decide)) (fun _ hk => hk.2) (.int .u64 t377)) (fun _ hk => hk.2) (.int .i64 t378)) (fun _ h_ => h_.1))) hb); replace BK368 := Aside0.mk (blk_below (g := gb368) (o := .cells #[.slice Ao16 t371.length co16, .bool t374, .int .i64 t375] 24 (0, 0)) (bp_1 BK368 NB368_380) hb); replace BK369 := Aside0.mk (blk_below (g := gb369) (o := .cells #[.int .u64 a1_0, .int .i64 a1_1] 27 (0, 0)) (bp_1 BK369 NB369_380) hb); replace BK380 := Aside0.mk (blk_below (g := gb380) (o := .cells #[.int .u64 t377, .int .i64 t378] 27 (0, 0)) (bp_0 BK380) hb); replace HB := Aside0.mk (below_step (bl_3 HB GE368 GE369 GE380) hb); (try clear hb)))
   go_meet
   case rel => exact ⟨_, ((t381 != 0)), (by first | rfl | (simp; done) | (simp [*]; done)), H', ⟨by first | omega | exact Nat.le_refl _⟩, ⟨by (with_reducible repeat (first | apply Kd.R_alloc | apply Kd.R_drewN | apply Kd.R_drew)); exact HO373.out⟩, ⟨bk_ BK368⟩, ⟨bk_ BK369⟩, ⟨bk_ BK380⟩, ⟨bl_3 HB GE368 GE369 GE380⟩⟩
  rw [if_neg c23] at H
  have c23b0 : (t379 == 0) = false := beq_eq_false_iff_ne.mpr c23
  have c23b1 : (t379 != 0) = true := bne_iff_ne.mpr c23
  (first | rw [c23b0] | (simp only [i64_w, i32_w]; rw [c23b0]) | skip)
  have H' := Aside0.mk H
  clear H
  go_wp2
  go_meet
  case rel => exact ⟨_, (true), (by first | rfl | (simp; done) | (simp [*]; done)), H', ⟨by first | omega | exact Nat.le_refl _⟩, ⟨by (with_reducible repeat (first | apply Kd.R_alloc | apply Kd.R_drewN | apply Kd.R_drew)); exact Kd.R_mono (Kd.R_far (p := ⟨gb380, 1, none⟩) (Kd.R_far (p := ⟨gb380, 0, none⟩) (Kd.R_types HO373.out BK380.out (by decide)) (fun _ hk => hk.2) (.int .u64 t377)) (fun _ hk => hk.2) (.int .i64 t378)) (fun _ hk => trivial)⟩, ⟨by (with_reducible repeat (first | refine blk_drewN ?_ _ | refine blk_drew ?_ | refine blk_alloc ?_ _)); refine blk_far ?_ NB368_380.out _; (with_reducible repeat (first | refine blk_drewN ?_ _ | refine blk_drew ?_ | refine blk_alloc ?_ _)); refine blk_far ?_ NB368_380.out _; (with_reducible repeat (first | refine blk_drewN ?_ _ | refine blk_drew ?_ | refine blk_alloc ?_ _)); exact BK368.out⟩, ⟨by (with_reducible repeat (first | refine blk_drewN ?_ _ | refine blk_drew ?_ | refine blk_alloc ?_ _)); refine blk_far ?_ NB369_380.out _; (with_reducible repeat (first | refine blk_drewN ?_ _ | refine blk_drew ?_ | refine blk_alloc ?_ _)); refine blk_far ?_ NB369_380.out _; (with_reducible repeat (first | refine blk_drewN ?_ _ | refine blk_drew ?_ | refine blk_alloc ?_ _)); exact BK369.out⟩, ⟨by (with_reducible repeat (first | refine blk_drewN ?_ _ | refine blk_drew ?_ | refine blk_alloc ?_ _)); refine blk_put (cs := #[.int .u64 t377, .int .i64 0]) ?_ 1 _ rfl; (with_reducible repeat (first | refine blk_drewN ?_ _ | refine blk_drew ?_ | refine blk_alloc ?_ _)); refine blk_put (cs := #[.int .u64 0, .int .i64 0]) ?_ 0 _ rfl; (with_reducible repeat (first | refine blk_drewN ?_ _ | refine blk_drew ?_ | refine blk_alloc ?_ _)); exact BK380.out⟩, ⟨bl_3 HB GE368 GE369 GE380⟩⟩
 case rest =>
  clear HC9
  try clear c1
  try clear c2
  try clear p2
  try clear c3
  try clear c4
  try clear c6
  try clear c13
  try clear c15
  try clear c19
  try clear c20
  try clear c21
  try clear c23
  try clear c23b0
  try clear c23b1
  try clear c25
  try clear c26
  try clear hcz14_0
  try clear hcz14_1
  try clear hcz14_2
  try clear hcz17_0
  try clear hcz17_1
  try clear hcz17_2
  try clear hcz22_0
  try clear hcz22_1
  try clear hcz27_0
  try clear hcz27_1
  try clear hfz14_0
  try clear hfz14_1
  try clear hfz14_2
  try clear hfz17_0
  try clear hfz17_1
  try clear hfz17_2
  try clear hfz22_0
  try clear hfz22_1
  try clear hfz27_0
  try clear hfz27_1
  obtain ⟨kq, x33_8, rfl, HA, HJ8, HO_369000, BK368, BK369, BK380, HB⟩ := hcut
  cases kq with
  | zero => exact absurd HA.out (by simp [gafferlaw04_HardOne.j0])
  | succ kj8 =>
   have H := HA.out
   clear HA
   simp only [gafferlaw04_HardOne.j0] at H
   by_cases c29 : x33_8 = true
   ·subst c29
    have H1 : (some true) = some r := by rw [if_pos rfl] at H; exact H
    clear H
    have H := H1
    clear H1
    obtain rfl := Option.some.inj H
    go_wp2
    go_ret
    exact ⟨by first | rfl | (simp; done) | (simp [*]; done), bl_3 HB GE368 GE369 GE380⟩
   replace c29 := Bool.eq_false_iff.mpr c29
   subst c29
   have H1 : ((hard_Save.f kj8 t371 t374 (mx a2 (-1)) a1_0 a1_1).bind fun bt382 => (if bt382.2.2.2 = 0 then (gafferlaw04_HardOne.j1 kj8 l3 bt382.2.2.2 false a1_0 a1_1 t377 t378 bt382.1 bt382.2.1 bt382.2.2.1) else (gafferlaw04_HardOne.j1 kj8 l3 bt382.2.2.2 (bt382.2.2.2 != 8) a1_0 a1_1 t377 t378 bt382.1 bt382.2.1 bt382.2.2.1))) = some r := by rw [if_neg (show ¬ (false = true) by decide)] at H; exact H
   clear H
   have H := H1
   clear H1
   obtain ⟨ji30, hji30⟩ : ∃ j_ : Int, (mx a2 (-1)) = j_ := ⟨_, rfl⟩
   replace H : ((hard_Save.f kj8 t371 t374 (ji30) a1_0 a1_1).bind fun bt382 => (if bt382.2.2.2 = 0 then (gafferlaw04_HardOne.j1 kj8 l3 bt382.2.2.2 false a1_0 a1_1 t377 t378 bt382.1 bt382.2.1 bt382.2.2.1) else (gafferlaw04_HardOne.j1 kj8 l3 bt382.2.2.2 (bt382.2.2.2 != 8) a1_0 a1_1 t377 t378 bt382.1 bt382.2.1 bt382.2.2.1))) = some r := by first | (rw [hji30] at H; exact H) | (simp only [hji30] at H ⊢; exact H)
   have hji30_ : (if a2 < (-1) then (-1) else a2) = ji30 := hji30
   obtain ⟨⟨t382, t385, t386, t387⟩, A310, H⟩ := Option.bind_eq_some_iff.mp H
   try dsimp only at H
   have A31 := Aside0.mk A310
   clear A310
   have HC32 := Aside0.mk H
   clear H
   have hnb33 := NB368_369.out
   have hnc33 := NB369_368.out
   have hnb34 := NB368_380.out
   have hnc34 := NB380_368.out
   obtain ⟨hcz35_0, hcz35_1, hcz35_2, hfz35_0, hfz35_1, hfz35_2⟩ := c3_ BK368
   have hnb36 := NB369_380.out
   have hnc36 := NB380_369.out
   obtain ⟨hcz37_0, hcz37_1, hfz37_0, hfz37_1⟩ := c2_ BK369
   go_upto_region 9 with (first | ((with_reducible refine gate_callee (f := 17) rfl ?_); refine goesL_ (some 40) rfl rfl Try.func17 (by kernel_rfl) rfl #[.agg #[.slice Ao16 t371.length co16, .bool t374, .int .i64 ji30], .agg #[.int .u64 a1_0, .int .i64 a1_1]] rfl (by (try simp only [List.map_toArray, List.map_cons, List.map_nil]); first | done | (simp only [hji30]; rfl) | rfl | (simp only [List.length_drop, List.length_take]; rfl)) ?_; (with_reducible refine (hard_Save.calls kj8 _ _ t371 t374 ji30 a1_0 a1_1 t382 t385 t386 t387 _ ?side1 ?side2 A31.out).mono ?_); (case side1 => refine (Kd.R_reads' (e := 71) (base := w.heap.size) (ok := fun k_ => True) (n := t371.length) (c := co16) ?_).2.2; exact (by (with_reducible repeat (first | apply Kd.R_alloc | apply Kd.R_drewN | apply Kd.R_drew)); exact (Kd.R_mono (Kd.R_far (p := ⟨gb368, 2, none⟩) (Kd.R_types HO_369000.out BK368.out (by decide)) (fun _ hk => hk.2) (.int .i64 ji30)) (fun _ h_ => h_.1)))); (case side2 => exact (Kd.R_reads' HO_369000.out).2.1); rintro e w38 ⟨v383, rfl, ho0, hb⟩; refine ⟨_, rfl, ?_⟩; have HO384 := Aside0.mk (Kd.R_lower (Kd.R_new' ho0 (Kd.R_lt (by (with_reducible repeat (first | apply Kd.R_alloc | apply Kd.R_drewN | apply Kd.R_drew)); exact (Kd.R_mono (Kd.R_far (p := ⟨gb368, 2, none⟩) (Kd.R_types HO_369000.out BK368.out (by decide)) (fun _ hk => hk.2) (.int .i64 ji30)) (fun _ h_ => h_.1))))) (below_size (bl_3 HB GE368 GE369 GE380))); replace HO_369000 := Aside0.mk (Kd.R_elder' (by (with_reducible repeat (first | apply Kd.R_alloc | apply Kd.R_drewN | apply Kd.R_drew)); exact (Kd.R_mono (Kd.R_far (p := ⟨gb368, 2, none⟩) (Kd.R_types HO_369000.out BK368.out (by decide)) (fun _ hk => hk.2) (.int .i64 ji30)) (fun _ h_ => h_.1))) (Kd.R_base ho0) hb); replace BK368 := Aside0.mk (blk_below (g := gb368) (o := .cells #[.slice Ao16 t371.length co16, .bool t374, .int .i64 ji30] 24 (0, 0)) (bp_0 BK368) hb); replace BK369 := Aside0.mk (blk_below (g := gb369) (o := .cells #[.int .u64 a1_0, .int .i64 a1_1] 27 (0, 0)) (bp_1 BK369 NB369_368) hb); replace BK380 := Aside0.mk (blk_below (g := gb380) (o := .cells #[.int .u64 t377, .int .i64 t378] 27 (0, 0)) (bp_1 BK380 NB380_368) hb); replace HB := Aside0.mk (below_step (bl_3 HB GE368 GE369 GE380) hb); (try clear hb); (try clear ho0)) | ((with_reducible refine gate_dst (N := 11) rfl ?_); refine bx_ 11 #[.slice none 0 0, .bool false, .int .i64 0] 24 ?_; intro gb388 hg w39 hbox hb; replace HO_369000 := Aside0.mk (Kd.R_below (by (with_reducible repeat (first | apply Kd.R_alloc | apply Kd.R_drewN | apply Kd.R_drew)); exact HO_369000.out) hb); replace HO384 := Aside0.mk (Kd.R_below (by (with_reducible repeat (first | apply Kd.R_alloc | apply Kd.R_drewN | apply Kd.R_drew)); exact HO384.out) hb); have BK388 := Aside0.mk (hbox); have GE388 := Aside0.mk (bs_3 hg HB GE368 GE369 GE380); replace HB := Aside0.mk (below_step (bl_3 HB GE368 GE369 GE380) hb); have NB368_388 := Aside0.mk (nb_ hg BK368); have NB388_368 := Aside0.mk (nc_ hg BK368); replace BK368 := Aside0.mk (bb_ BK368 hb); have NB369_388 := Aside0.mk (nb_ hg BK369); have NB388_369 := Aside0.mk (nc_ hg BK369); replace BK369 := Aside0.mk (bb_ BK369 hb); have NB380_388 := Aside0.mk (nb_ hg BK380); have NB388_380 := Aside0.mk (nc_ hg BK380); replace BK380 := Aside0.mk (bb_ BK380 hb); clear hb hbox hg; obtain ⟨Ao40, co40, eo40⟩ := Kd.R_slice HO384.out; subst eo40; have hnb41 := NB388_368.out; have hnc41 := NB368_388.out; have hnb42 := NB388_369.out; have hnc42 := NB369_388.out; have hnb43 := NB388_380.out; have hnc43 := NB380_388.out; obtain ⟨hcz44_0, hcz44_1, hcz44_2, hfz44_0, hfz44_1, hfz44_2⟩ := c3_ BK388))
   (try simp only [Act.put, List.setIfInBounds_toArray, List.set_cons_zero, List.set_cons_succ])
   go_cut [48] (fun v48 wc => ∃ (kq : Nat) (x48_31 : Bool), v48 = .bool x48_31 ∧ Aside0 (gafferlaw04_HardOne.j1 kq l3 t387 x48_31 a1_0 a1_1 t377 t378 t382 t385 t386 = some r) ∧ Aside0 (kq ≤ kj8) ∧ Aside0 (Kd.R k71 71 wc w.heap.size (fun k_ => some k_ ≠ ((.slice Ao40 t382.length co40) : Value).ownBlock) (.slice Ao16 t371.length co16) t371) ∧ Aside0 (Kd.R k71 71 wc w.heap.size (fun k_ => some k_ ≠ ((.slice Ao16 t371.length co16) : Value).ownBlock) (.slice Ao40 t382.length co40) t382) ∧ Aside0 (wc.heap[gb368]? = some (.cells #[(.slice Ao16 t371.length co16), .bool t374, .int .i64 ji30] 24 (0, 0))) ∧ Aside0 (wc.heap[gb369]? = some (.cells #[.int .u64 a1_0, .int .i64 a1_1] 27 (0, 0))) ∧ Aside0 (wc.heap[gb380]? = some (.cells #[.int .u64 t377, .int .i64 t378] 27 (0, 0))) ∧ Aside0 (wc.heap[gb388]? = some (.cells #[(.slice Ao40 t382.length co40), .bool t385, .int .i64 t386] 24 (0, 0))) ∧ Aside0 (Below w.heap.size w wc))
   case first =>
    have H := HC32.out
    clear HC32
    by_cases c45 : t387 = 0
    rotate_left
    ·rw [if_neg c45] at H
     have c45b0 : (t387 == 0) = false := beq_eq_false_iff_ne.mpr c45
     have c45b1 : (t387 != 0) = true := bne_iff_ne.mpr c45
     (first | rw [c45b0] | (simp only [i64_w, i32_w]; rw [c45b0]) | skip)
     have H' := Aside0.mk H
     clear H
     go_wp2
     go_meet
     case rel => exact ⟨_, ((t387 != 8)), (by first | rfl | (simp; done) | (simp [*]; done)), H', ⟨by have := HJ8.out; first | omega | exact Nat.le_refl _⟩, ⟨by (with_reducible repeat (first | apply Kd.R_alloc | apply Kd.R_drewN | apply Kd.R_drew)); exact Kd.R_mono (Kd.R_far (p := ⟨gb388, 2, none⟩) (Kd.R_far (p := ⟨gb388, 1, none⟩) (Kd.R_far (p := ⟨gb388, 0, none⟩) (Kd.R_types HO_369000.out BK388.out (by decide)) (fun _ hk => hk.2) (.slice Ao40 t382.length co40)) (fun _ hk => hk.2) (.bool t385)) (fun _ hk => hk.2) (.int .i64 t386)) (fun _ hk => hk.1.2)⟩, ⟨by (with_reducible repeat (first | apply Kd.R_alloc | apply Kd.R_drewN | apply Kd.R_drew)); exact Kd.R_mono (Kd.R_far (p := ⟨gb388, 2, none⟩) (Kd.R_far (p := ⟨gb388, 1, none⟩) (Kd.R_far (p := ⟨gb388, 0, none⟩) (Kd.R_types HO384.out BK388.out (by decide)) (fun _ hk => hk.2) (.slice Ao40 t382.length co40)) (fun _ hk => hk.2) (.bool t385)) (fun _ hk => hk.2) (.int .i64 t386)) (fun _ hk => hk.1.2)⟩, ⟨by (with_reducible repeat (first | refine blk_drewN ?_ _ | refine blk_drew ?_ | refine blk_alloc ?_ _)); refine blk_far ?_ NB368_388.out _; (with_reducible repeat (first | refine blk_drewN ?_ _ | refine blk_drew ?_ | refine blk_alloc ?_ _)); refine blk_far ?_ NB368_388.out _; (with_reducible repeat (first | refine blk_drewN ?_ _ | refine blk_drew ?_ | refine blk_alloc ?_ _)); refine blk_far ?_ NB368_388.out _; (with_reducible repeat (first | refine blk_drewN ?_ _ | refine blk_drew ?_ | refine blk_alloc ?_ _)); exact BK368.out⟩, ⟨by (with_reducible repeat (first | refine blk_drewN ?_ _ | refine blk_drew ?_ | refine blk_alloc ?_ _)); refine blk_far ?_ NB369_388.out _; (with_reducible repeat (first | refine blk_drewN ?_ _ | refine blk_drew ?_ | refine blk_alloc ?_ _)); refine blk_far ?_ NB369_388.out _; (with_reducible repeat (first | refine blk_drewN ?_ _ | refine blk_drew ?_ | refine blk_alloc ?_ _)); refine blk_far ?_ NB369_388.out _; (with_reducible repeat (first | refine blk_drewN ?_ _ | refine blk_drew ?_ | refine blk_alloc ?_ _)); exact BK369.out⟩, ⟨by (with_reducible repeat (first | refine blk_drewN ?_ _ | refine blk_drew ?_ | refine blk_alloc ?_ _)); refine blk_far ?_ NB380_388.out _; (with_reducible repeat (first | refine blk_drewN ?_ _ | refine blk_drew ?_ | refine blk_alloc ?_ _)); refine blk_far ?_ NB380_388.out _; (with_reducible repeat (first | refine blk_drewN ?_ _ | refine blk_drew ?_ | refine blk_alloc ?_ _)); refine blk_far ?_ NB380_388.out _; (with_reducible repeat (first | refine blk_drewN ?_ _ | refine blk_drew ?_ | refine blk_alloc ?_ _)); exact BK380.out⟩, ⟨by (with_reducible repeat (first | refine blk_drewN ?_ _ | refine blk_drew ?_ | refine blk_alloc ?_ _)); refine blk_put (cs := #[.slice Ao40 t382.length co40, .bool t385, .int .i64 0]) ?_ 2 _ rfl; (with_reducible repeat (first | refine blk_drewN ?_ _ | refine blk_drew ?_ | refine blk_alloc ?_ _)); refine blk_put (cs := #[.slice Ao40 t382.length co40, .bool false, .int .i64 0]) ?_ 1 _ rfl; (with_reducible repeat (first | refine blk_drewN ?_ _ | refine blk_drew ?_ | refine blk_alloc ?_ _)); refine blk_put (cs := #[.slice none 0 0, .bool false, .int .i64 0]) ?_ 0 _ rfl; (with_reducible repeat (first | refine blk_drewN ?_ _ | refine blk_drew ?_ | refine blk_alloc ?_ _)); exact BK388.out⟩, ⟨bl_4 HB GE368 GE369 GE380 GE388⟩⟩
    rw [if_pos c45] at H
    have c45b0 : (t387 == 0) = true := beq_iff_eq.mpr c45
    have c45b1 : (t387 != 0) = false := bne_eq_false_iff_eq.mpr c45
    clear c45
    (first | rw [c45b0] | (simp only [i64_w, i32_w]; rw [c45b0]) | skip)
    have H' := Aside0.mk H
    clear H
    go_wp2
    go_meet
    case rel => exact ⟨_, (false), (by first | rfl | (simp; done) | (simp [*]; done)), H', ⟨by have := HJ8.out; first | omega | exact Nat.le_refl _⟩, ⟨by (with_reducible repeat (first | apply Kd.R_alloc | apply Kd.R_drewN | apply Kd.R_drew)); exact Kd.R_mono (Kd.R_far (p := ⟨gb388, 2, none⟩) (Kd.R_far (p := ⟨gb388, 1, none⟩) (Kd.R_far (p := ⟨gb388, 0, none⟩) (Kd.R_types HO_369000.out BK388.out (by decide)) (fun _ hk => hk.2) (.slice Ao40 t382.length co40)) (fun _ hk => hk.2) (.bool t385)) (fun _ hk => hk.2) (.int .i64 t386)) (fun _ hk => hk.1.2)⟩, ⟨by (with_reducible repeat (first | apply Kd.R_alloc | apply Kd.R_drewN | apply Kd.R_drew)); exact Kd.R_mono (Kd.R_far (p := ⟨gb388, 2, none⟩) (Kd.R_far (p := ⟨gb388, 1, none⟩) (Kd.R_far (p := ⟨gb388, 0, none⟩) (Kd.R_types HO384.out BK388.out (by decide)) (fun _ hk => hk.2) (.slice Ao40 t382.length co40)) (fun _ hk => hk.2) (.bool t385)) (fun _ hk => hk.2) (.int .i64 t386)) (fun _ hk => hk.1.2)⟩, ⟨by (with_reducible repeat (first | refine blk_drewN ?_ _ | refine blk_drew ?_ | refine blk_alloc ?_ _)); refine blk_far ?_ NB368_388.out _; (with_reducible repeat (first | refine blk_drewN ?_ _ | refine blk_drew ?_ | refine blk_alloc ?_ _)); refine blk_far ?_ NB368_388.out _; (with_reducible repeat (first | refine blk_drewN ?_ _ | refine blk_drew ?_ | refine blk_alloc ?_ _)); refine blk_far ?_ NB368_388.out _; (with_reducible repeat (first | refine blk_drewN ?_ _ | refine blk_drew ?_ | refine blk_alloc ?_ _)); exact BK368.out⟩, ⟨by (with_reducible repeat (first | refine blk_drewN ?_ _ | refine blk_drew ?_ | refine blk_alloc ?_ _)); refine blk_far ?_ NB369_388.out _; (with_reducible repeat (first | refine blk_drewN ?_ _ | refine blk_drew ?_ | refine blk_alloc ?_ _)); refine blk_far ?_ NB369_388.out _; (with_reducible repeat (first | refine blk_drewN ?_ _ | refine blk_drew ?_ | refine blk_alloc ?_ _)); refine blk_far ?_ NB369_388.out _; (with_reducible repeat (first | refine blk_drewN ?_ _ | refine blk_drew ?_ | refine blk_alloc ?_ _)); exact BK369.out⟩, ⟨by (with_reducible repeat (first | refine blk_drewN ?_ _ | refine blk_drew ?_ | refine blk_alloc ?_ _)); refine blk_far ?_ NB380_388.out _; (with_reducible repeat (first | refine blk_drewN ?_ _ | refine blk_drew ?_ | refine blk_alloc ?_ _)); refine blk_far ?_ NB380_388.out _; (with_reducible repeat (first | refine blk_drewN ?_ _ | refine blk_drew ?_ | refine blk_alloc ?_ _)); refine blk_far ?_ NB380_388.out _; (with_reducible repeat (first | refine blk_drewN ?_ _ | refine blk_drew ?_ | refine blk_alloc ?_ _)); exact BK380.out⟩, ⟨by (with_reducible repeat (first | refine blk_drewN ?_ _ | refine blk_drew ?_ | refine blk_alloc ?_ _)); refine blk_put (cs := #[.slice Ao40 t382.length co40, .bool t385, .int .i64 0]) ?_ 2 _ rfl; (with_reducible repeat (first | refine blk_drewN ?_ _ | refine blk_drew ?_ | refine blk_alloc ?_ _)); refine blk_put (cs := #[.slice Ao40 t382.length co40, .bool false, .int .i64 0]) ?_ 1 _ rfl; (with_reducible repeat (first | refine blk_drewN ?_ _ | refine blk_drew ?_ | refine blk_alloc ?_ _)); refine blk_put (cs := #[.slice none 0 0, .bool false, .int .i64 0]) ?_ 0 _ rfl; (with_reducible repeat (first | refine blk_drewN ?_ _ | refine blk_drew ?_ | refine blk_alloc ?_ _)); exact BK388.out⟩, ⟨bl_4 HB GE368 GE369 GE380 GE388⟩⟩
   case rest =>
    clear HC32
    try clear c1
    try clear c2
    try clear p2
    try clear c3
    try clear c4
    try clear c6
    try clear c13
    try clear c15
    try clear c17
    try clear c19
    try clear c20
    try clear c21
    try clear c23
    try clear c23b0
    try clear c23b1
    try clear c25
    try clear c26
    try clear c29
    try clear c33
    try clear c34
    try clear c36
    try clear c41
    try clear c42
    try clear c43
    try clear c45
    try clear c45b0
    try clear c45b1
    try clear hcz14_0
    try clear hcz14_1
    try clear hcz14_2
    try clear hcz17_0
    try clear hcz17_1
    try clear hcz17_2
    try clear hcz22_0
    try clear hcz22_1
    try clear hcz27_0
    try clear hcz27_1
    try clear hcz35_0
    try clear hcz35_1
    try clear hcz35_2
    try clear hcz37_0
    try clear hcz37_1
    try clear hcz44_0
    try clear hcz44_1
    try clear hcz44_2
    try clear hfz14_0
    try clear hfz14_1
    try clear hfz14_2
    try clear hfz17_0
    try clear hfz17_1
    try clear hfz17_2
    try clear hfz22_0
    try clear hfz22_1
    try clear hfz27_0
    try clear hfz27_1
    try clear hfz35_0
    try clear hfz35_1
    try clear hfz35_2
    try clear hfz37_0
    try clear hfz37_1
    try clear hfz44_0
    try clear hfz44_1
    try clear hfz44_2
    try clear p2
    obtain ⟨kq, x48_31, rfl, HA, HJ31, HO_369000, HO_389000, BK368, BK369, BK380, BK388, HB⟩ := hcut
    cases kq with
    | zero => exact absurd HA.out (by simp [gafferlaw04_HardOne.j1])
    | succ kj31 =>
     have H := HA.out
     clear HA
     simp only [gafferlaw04_HardOne.j1] at H
     by_cases c46 : x48_31 = true
     ·subst c46
      have H1 : (some (t387 == 11)) = some r := by rw [if_pos rfl] at H; exact H
      clear H
      have H := H1
      clear H1
      obtain rfl := Option.some.inj H
      go_wp2
      go_ret
      exact ⟨by first | rfl | (simp [errW_none, errW_some] <;> rfl) | (simp only [← hji30]; first | rfl | (simp [errW_none, errW_some] <;> rfl)) | (simp [*, errW_none, errW_some] <;> rfl), bl_4 HB GE368 GE369 GE380 GE388⟩
     replace c46 := Bool.eq_false_iff.mpr c46
     subst c46
     have H1 : ((disk_Crash.f kj31 t382 t385 t386 l3).bind fun bt389 => ((hard_Load.f kj31 bt389.1 bt389.2.1 bt389.2.2.1).bind fun bt395 => (if bt395.2.2 = 0 then (if (bt395.1 == a1_0 && (bt395.2.1 == a1_1)) = true then (some true) else (if (bt395.1 == t377 && (bt395.2.1 == t378)) = true then (some (t387 != 0)) else (some false))) else (some false)))) = some r := by rw [if_neg (show ¬ (false = true) by decide)] at H; exact H
     clear H
     have H := H1
     clear H1
     obtain ⟨⟨t389, t392, t393, t394⟩, A470, H⟩ := Option.bind_eq_some_iff.mp H
     try dsimp only at H
     have A47 := Aside0.mk A470
     clear A470
     obtain ⟨⟨t395, t396, t397⟩, A480, H⟩ := Option.bind_eq_some_iff.mp H
     try dsimp only at H
     have A48 := Aside0.mk A480
     clear A480
     by_cases c49 : t397 = 0
     rotate_left
     ·rw [if_neg c49] at H
      have c49b0 : (t397 == 0) = false := beq_eq_false_iff_ne.mpr c49
      have c49b1 : (t397 != 0) = true := bne_iff_ne.mpr c49
      exact absurd (H.trans (congrArg some hr)) (by simp)
     rw [if_pos c49] at H
     have c49b0 : (t397 == 0) = true := beq_iff_eq.mpr c49
     have c49b1 : (t397 != 0) = false := bne_eq_false_iff_eq.mpr c49
     clear c49
     by_cases c50 : (t395 == a1_0 && (t396 == a1_1)) = true
     ·rw [if_pos c50] at H
      have c50b0 : (t395 == a1_0 && (t396 == a1_1)) = true := c50
      (try (have c50b1 : decide (t395 = a1_0 && (t396 == a1_1)) = true := by simpa using c50))
      (try (have c50b2 : (t395 == a1_0 && (t396 == a1_1)) = true := by simpa using c50))
      clear c50
      obtain rfl := Option.some.inj H
      have hnb51 := NB388_368.out
      have hnc51 := NB368_388.out
      have hnb52 := NB388_369.out
      have hnc52 := NB369_388.out
      have hnb53 := NB388_380.out
      have hnc53 := NB380_388.out
      obtain ⟨hcz54_0, hcz54_1, hcz54_2, hfz54_0, hfz54_1, hfz54_2⟩ := c3_ BK388
      go_wp2_with (first | ((with_reducible refine gate_callee (f := 23) rfl ?_); refine goesL_ (some 54) rfl rfl Try.func23 (by kernel_rfl) rfl #[.agg #[.slice Ao40 t382.length co40, .bool t385, .int .i64 t386], .slice A3 l3.length c3] rfl (ar_) ?_; (with_reducible refine (disk_Crash.calls kj31 _ _ t382 t385 t386 _ _ l3 t389 t392 t393 t394 _ ?side1 ?side2 ?side3 ?side4 A47.out).mono ?_); (case side1 => exact cl_ ((Kd.R_reads' HO_389000.out).2.2)); (case side2 => exact (Kd.R_reads' HO_389000.out).2.1); (case side3 => exact cl_ (Kd.C_below HR3.out HB.out)); (case side4 => exact HC3.out); rintro e w55 ⟨v390, rfl, ho0, hb⟩; refine ⟨_, rfl, ?_⟩; have HO391 := Aside0.mk (Kd.R_lower (Kd.R_new' (Kd.R_new' ho0 (Kd.R_lt (by (with_reducible repeat (first | apply Kd.R_alloc | apply Kd.R_drewN | apply Kd.R_drew)); exact HO_369000.out))) (Kd.R_lt (by (with_reducible repeat (first | apply Kd.R_alloc | apply Kd.R_drewN | apply Kd.R_drew)); exact HO_389000.out))) (below_size (bl_4 HB GE368 GE369 GE380 GE388))); replace HO_369000 := Aside0.mk (Kd.R_elder' (by (with_reducible repeat (first | apply Kd.R_alloc | apply Kd.R_drewN | apply Kd.R_drew)); exact HO_369000.out) (Kd.R_base ho0) hb); replace HO_389000 := Aside0.mk (Kd.R_elder' (by (with_reducible repeat (first | apply Kd.R_alloc | apply Kd.R_drewN | apply Kd.R_drew)); exact HO_389000.out) (Kd.R_base ho0) hb); replace BK368 := Aside0.mk (bb_ BK368 hb); replace BK369 := Aside0.mk (bb_ BK369 hb); replace BK380 := Aside0.mk (bb_ BK380 hb); replace BK388 := Aside0.mk (bb_ BK388 hb); replace HB := Aside0.mk (below_step (bl_4 HB GE368 GE369 GE380 GE388) hb); (try clear hb); (try clear ho0); obtain ⟨Ao56, co56, eo56⟩ := Kd.R_slice HO391.out; subst eo56; obtain ⟨hcz57_0, hcz57_1, hcz57_2, hfz57_0, hfz57_1, hfz57_2⟩ := c3_ BK388) | ((with_reducible refine gate_callee (f := 15) rfl ?_); refine goesL_ (some 59) rfl rfl Try.func15 (by kernel_rfl) rfl #[.agg #[.slice Ao56 t389.length co56, .bool t392, .int .i64 t393]] rfl (ar_) ?_; (with_reducible refine (hard_Load.calls kj31 _ _ t389 t392 t393 t395 t396 t397 _ ?side1 ?side2 A48.out).mono ?_); (case side1 => refine (Kd.R_reads' (e := 71) (base := w.heap.size) (ok := fun k_ => ((True ∧ some k_ ≠ (.slice Ao16 t371.length co16 : Value).ownBlock) ∧ some k_ ≠ (.slice Ao40 t382.length co40 : Value).ownBlock)) (n := t389.length) (c := co56) ?_).2.2; exact (by (with_reducible repeat (first | apply Kd.R_alloc | apply Kd.R_drewN | apply Kd.R_drew)); exact (Kd.R_mono (Kd.R_far (p := ⟨gb388, 2, none⟩) (Kd.R_far (p := ⟨gb388, 1, none⟩) (Kd.R_far (p := ⟨gb388, 0, none⟩) (Kd.R_types HO391.out BK388.out (by decide)) (fun _ hk => hk.2) (.slice Ao56 t389.length co56)) (fun _ hk => hk.2) (.bool t392)) (fun _ hk => hk.2) (.int .i64 t393)) (fun _ h_ => h_.1)))); (case side2 => exact (Kd.R_reads' HO391.out).2.1); rintro e w58 ⟨rfl, hb⟩; refine ⟨_, rfl, ?_⟩; replace HO_369000 := Aside0.mk (Kd.R_below (by (with_reducible repeat (first | apply Kd.R_alloc | apply Kd.R_drewN | apply Kd.R_drew)); exact (Kd.R_mono (Kd.R_far (p := ⟨gb388, 2, none⟩) (Kd.R_far (p := ⟨gb388, 1, none⟩) (Kd.R_far (p := ⟨gb388, 0, none⟩) (Kd.R_types HO_369000.out BK388.out (by decide)) (fun _ hk => hk.2) (.slice Ao56 t389.length co56)) (fun _ hk => hk.2) (.bool t392)) (fun _ hk => hk.2) (.int .i64 t393)) (fun _ h_ => h_.1))) hb); replace HO_389000 := Aside0.mk (Kd.R_below (by (with_reducible repeat (first | apply Kd.R_alloc | apply Kd.R_drewN | apply Kd.R_drew)); exact (Kd.R_mono (Kd.R_far (p := ⟨gb388, 2, none⟩) (Kd.R_far (p := ⟨gb388, 1, none⟩) (Kd.R_far (p := ⟨gb388, 0, none⟩) (Kd.R_types HO_389000.out BK388.out (by decide)) (fun _ hk => hk.2) (.slice Ao56 t389.length co56)) (fun _ hk => hk.2) (.bool t392)) (fun _ hk => hk.2) (.int .i64 t393)) (fun _ h_ => h_.1))) hb); replace HO391 := Aside0.mk (Kd.R_below (by (with_reducible repeat (first | apply Kd.R_alloc | apply Kd.R_drewN | apply Kd.R_drew)); exact (Kd.R_mono (Kd.R_far (p := ⟨gb388, 2, none⟩) (Kd.R_far (p := ⟨gb388, 1, none⟩) (Kd.R_far (p := ⟨gb388, 0, none⟩) (Kd.R_types HO391.out BK388.out (by decide)) (fun _ hk => hk.2) (.slice Ao56 t389.length co56)) (fun _ hk => hk.2) (.bool t392)) (fun _ hk => hk.2) (.int .i64 t393)) (fun _ h_ => h_.1))) hb); replace BK368 := Aside0.mk (blk_below (g := gb368) (o := .cells #[.slice Ao16 t371.length co16, .bool t374, .int .i64 ji30] 24 (0, 0)) (bp_1 BK368 NB368_388) hb); replace BK369 := Aside0.mk (blk_below (g := gb369) (o := .cells #[.int .u64 a1_0, .int .i64 a1_1] 27 (0, 0)) (bp_1 BK369 NB369_388) hb); replace BK380 := Aside0.mk (blk_below (g := gb380) (o := .cells #[.int .u64 t377, .int .i64 t378] 27 (0, 0)) (bp_1 BK380 NB380_388) hb); replace BK388 := Aside0.mk (blk_below (g := gb388) (o := .cells #[.slice Ao56 t389.length co56, .bool t392, .int .i64 t393] 24 (0, 0)) (bp_0 BK388) hb); replace HB := Aside0.mk (below_step (bl_4 HB GE368 GE369 GE380 GE388) hb); (try clear hb)) | ((with_reducible refine gate_dst (N := 13) rfl ?_); refine bx_ 13 #[.int .u64 0, .int .i64 0] 27 ?_; intro gb398 hg w59 hbox hb; replace HO_369000 := Aside0.mk (Kd.R_below (by (with_reducible repeat (first | apply Kd.R_alloc | apply Kd.R_drewN | apply Kd.R_drew)); exact HO_369000.out) hb); replace HO_389000 := Aside0.mk (Kd.R_below (by (with_reducible repeat (first | apply Kd.R_alloc | apply Kd.R_drewN | apply Kd.R_drew)); exact HO_389000.out) hb); replace HO391 := Aside0.mk (Kd.R_below (by (with_reducible repeat (first | apply Kd.R_alloc | apply Kd.R_drewN | apply Kd.R_drew)); exact HO391.out) hb); have BK398 := Aside0.mk (hbox); have GE398 := Aside0.mk (bs_4 hg HB GE368 GE369 GE380 GE388); replace HB := Aside0.mk (below_step (bl_4 HB GE368 GE369 GE380 GE388) hb); have NB368_398 := Aside0.mk (nb_ hg BK368); have NB398_368 := Aside0.mk (nc_ hg BK368); replace BK368 := Aside0.mk (bb_ BK368 hb); have NB369_398 := Aside0.mk (nb_ hg BK369); have NB398_369 := Aside0.mk (nc_ hg BK369); replace BK369 := Aside0.mk (bb_ BK369 hb); have NB380_398 := Aside0.mk (nb_ hg BK380); have NB398_380 := Aside0.mk (nc_ hg BK380); replace BK380 := Aside0.mk (bb_ BK380 hb); have NB388_398 := Aside0.mk (nb_ hg BK388); have NB398_388 := Aside0.mk (nc_ hg BK388); replace BK388 := Aside0.mk (bb_ BK388 hb); clear hb hbox hg; have hnb60 := NB398_368.out; have hnc60 := NB368_398.out; have hnb61 := NB398_369.out; have hnc61 := NB369_398.out; have hnb62 := NB398_380.out; have hnc62 := NB380_398.out; have hnb63 := NB398_388.out; have hnc63 := NB388_398.out; obtain ⟨hcz64_0, hcz64_1, hfz64_0, hfz64_1⟩ := c2_ BK398; have hnb65 := NB369_368.out; have hnc65 := NB368_369.out; have hnb66 := NB369_380.out; have hnc66 := NB380_369.out; obtain ⟨hcz67_0, hcz67_1, hfz67_0, hfz67_1⟩ := c2_ BK369))
      go_ret
      exact ⟨by first | rfl | (simp [errW_none, errW_some] <;> rfl) | (simp only [← hji30]; first | rfl | (simp [errW_none, errW_some] <;> rfl)) | (simp [*, errW_none, errW_some] <;> rfl), bl_5 HB GE368 GE369 GE380 GE388 GE398⟩
     rw [if_neg c50] at H
     have c50b0 : (t395 == a1_0 && (t396 == a1_1)) = false := by simpa using c50
     (try (have c50b1 : decide (t395 = a1_0 && (t396 == a1_1)) = false := by simpa using c50))
     (try (have c50b2 : (t395 == a1_0 && (t396 == a1_1)) = false := by simpa using c50))
     (try (have c50b3 : ¬ (t395 = a1_0 && (t396 == a1_1)) := by simpa using c50))
     clear c50
     by_cases c68 : (t395 == t377 && (t396 == t378)) = true
     rotate_left
     ·rw [if_neg c68] at H
      have c68b0 : (t395 == t377 && (t396 == t378)) = false := by simpa using c68
      (try (have c68b1 : decide (t395 = t377 && (t396 == t378)) = false := by simpa using c68))
      (try (have c68b2 : (t395 == t377 && (t396 == t378)) = false := by simpa using c68))
      (try (have c68b3 : ¬ (t395 = t377 && (t396 == t378)) := by simpa using c68))
      clear c68
      exact absurd (H.trans (congrArg some hr)) (by simp)
     rw [if_pos c68] at H
     have c68b0 : (t395 == t377 && (t396 == t378)) = true := c68
     (try (have c68b1 : decide (t395 = t377 && (t396 == t378)) = true := by simpa using c68))
     (try (have c68b2 : (t395 == t377 && (t396 == t378)) = true := by simpa using c68))
     clear c68
     obtain rfl := Option.some.inj H
     have hnb69 := NB388_368.out
     have hnc69 := NB368_388.out
     have hnb70 := NB388_369.out
     have hnc70 := NB369_388.out
     have hnb71 := NB388_380.out
     have hnc71 := NB380_388.out
     obtain ⟨hcz72_0, hcz72_1, hcz72_2, hfz72_0, hfz72_1, hfz72_2⟩ := c3_ BK388
     go_wp2_with (first | ((with_reducible refine gate_callee (f := 23) rfl ?_); refine goesL_ (some 54) rfl rfl Try.func23 (by kernel_rfl) rfl #[.agg #[.slice Ao40 t382.length co40, .bool t385, .int .i64 t386], .slice A3 l3.length c3] rfl (ar_) ?_; (with_reducible refine (disk_Crash.calls kj31 _ _ t382 t385 t386 _ _ l3 t389 t392 t393 t394 _ ?side1 ?side2 ?side3 ?side4 A47.out).mono ?_); (case side1 => exact cl_ ((Kd.R_reads' HO_389000.out).2.2)); (case side2 => exact (Kd.R_reads' HO_389000.out).2.1); (case side3 => exact cl_ (Kd.C_below HR3.out HB.out)); (case side4 => exact HC3.out); rintro e w73 ⟨v390, rfl, ho0, hb⟩; refine ⟨_, rfl, ?_⟩; have HO391 := Aside0.mk (Kd.R_lower (Kd.R_new' (Kd.R_new' ho0 (Kd.R_lt (by (with_reducible repeat (first | apply Kd.R_alloc | apply Kd.R_drewN | apply Kd.R_drew)); exact HO_369000.out))) (Kd.R_lt (by (with_reducible repeat (first | apply Kd.R_alloc | apply Kd.R_drewN | apply Kd.R_drew)); exact HO_389000.out))) (below_size (bl_4 HB GE368 GE369 GE380 GE388))); replace HO_369000 := Aside0.mk (Kd.R_elder' (by (with_reducible repeat (first | apply Kd.R_alloc | apply Kd.R_drewN | apply Kd.R_drew)); exact HO_369000.out) (Kd.R_base ho0) hb); replace HO_389000 := Aside0.mk (Kd.R_elder' (by (with_reducible repeat (first | apply Kd.R_alloc | apply Kd.R_drewN | apply Kd.R_drew)); exact HO_389000.out) (Kd.R_base ho0) hb); replace BK368 := Aside0.mk (bb_ BK368 hb); replace BK369 := Aside0.mk (bb_ BK369 hb); replace BK380 := Aside0.mk (bb_ BK380 hb); replace BK388 := Aside0.mk (bb_ BK388 hb); replace HB := Aside0.mk (below_step (bl_4 HB GE368 GE369 GE380 GE388) hb); (try clear hb); (try clear ho0); obtain ⟨Ao74, co74, eo74⟩ := Kd.R_slice HO391.out; subst eo74; obtain ⟨hcz75_0, hcz75_1, hcz75_2, hfz75_0, hfz75_1, hfz75_2⟩ := c3_ BK388) | ((with_reducible refine gate_callee (f := 15) rfl ?_); refine goesL_ (some 59) rfl rfl Try.func15 (by kernel_rfl) rfl #[.agg #[.slice Ao74 t389.length co74, .bool t392, .int .i64 t393]] rfl (ar_) ?_; (with_reducible refine (hard_Load.calls kj31 _ _ t389 t392 t393 t395 t396 t397 _ ?side1 ?side2 A48.out).mono ?_); (case side1 => refine (Kd.R_reads' (e := 71) (base := w.heap.size) (ok := fun k_ => ((True ∧ some k_ ≠ (.slice Ao16 t371.length co16 : Value).ownBlock) ∧ some k_ ≠ (.slice Ao40 t382.length co40 : Value).ownBlock)) (n := t389.length) (c := co74) ?_).2.2; exact (by (with_reducible repeat (first | apply Kd.R_alloc | apply Kd.R_drewN | apply Kd.R_drew)); exact (Kd.R_mono (Kd.R_far (p := ⟨gb388, 2, none⟩) (Kd.R_far (p := ⟨gb388, 1, none⟩) (Kd.R_far (p := ⟨gb388, 0, none⟩) (Kd.R_types HO391.out BK388.out (by decide)) (fun _ hk => hk.2) (.slice Ao74 t389.length co74)) (fun _ hk => hk.2) (.bool t392)) (fun _ hk => hk.2) (.int .i64 t393)) (fun _ h_ => h_.1)))); (case side2 => exact (Kd.R_reads' HO391.out).2.1); rintro e w76 ⟨rfl, hb⟩; refine ⟨_, rfl, ?_⟩; replace HO_369000 := Aside0.mk (Kd.R_below (by (with_reducible repeat (first | apply Kd.R_alloc | apply Kd.R_drewN | apply Kd.R_drew)); exact (Kd.R_mono (Kd.R_far (p := ⟨gb388, 2, none⟩) (Kd.R_far (p := ⟨gb388, 1, none⟩) (Kd.R_far (p := ⟨gb388, 0, none⟩) (Kd.R_types HO_369000.out BK388.out (by decide)) (fun _ hk => hk.2) (.slice Ao74 t389.length co74)) (fun _ hk => hk.2) (.bool t392)) (fun _ hk => hk.2) (.int .i64 t393)) (fun _ h_ => h_.1))) hb); replace HO_389000 := Aside0.mk (Kd.R_below (by (with_reducible repeat (first | apply Kd.R_alloc | apply Kd.R_drewN | apply Kd.R_drew)); exact (Kd.R_mono (Kd.R_far (p := ⟨gb388, 2, none⟩) (Kd.R_far (p := ⟨gb388, 1, none⟩) (Kd.R_far (p := ⟨gb388, 0, none⟩) (Kd.R_types HO_389000.out BK388.out (by decide)) (fun _ hk => hk.2) (.slice Ao74 t389.length co74)) (fun _ hk => hk.2) (.bool t392)) (fun _ hk => hk.2) (.int .i64 t393)) (fun _ h_ => h_.1))) hb); replace HO391 := Aside0.mk (Kd.R_below (by (with_reducible repeat (first | apply Kd.R_alloc | apply Kd.R_drewN | apply Kd.R_drew)); exact (Kd.R_mono (Kd.R_far (p := ⟨gb388, 2, none⟩) (Kd.R_far (p := ⟨gb388, 1, none⟩) (Kd.R_far (p := ⟨gb388, 0, none⟩) (Kd.R_types HO391.out BK388.out (by decide)) (fun _ hk => hk.2) (.slice Ao74 t389.length co74)) (fun _ hk => hk.2) (.bool t392)) (fun _ hk => hk.2) (.int .i64 t393)) (fun _ h_ => h_.1))) hb); replace BK368 := Aside0.mk (blk_below (g := gb368) (o := .cells #[.slice Ao16 t371.length co16, .bool t374, .int .i64 ji30] 24 (0, 0)) (bp_1 BK368 NB368_388) hb); replace BK369 := Aside0.mk (blk_below (g := gb369) (o := .cells #[.int .u64 a1_0, .int .i64 a1_1] 27 (0, 0)) (bp_1 BK369 NB369_388) hb); replace BK380 := Aside0.mk (blk_below (g := gb380) (o := .cells #[.int .u64 t377, .int .i64 t378] 27 (0, 0)) (bp_1 BK380 NB380_388) hb); replace BK388 := Aside0.mk (blk_below (g := gb388) (o := .cells #[.slice Ao74 t389.length co74, .bool t392, .int .i64 t393] 24 (0, 0)) (bp_0 BK388) hb); replace HB := Aside0.mk (below_step (bl_4 HB GE368 GE369 GE380 GE388) hb); (try clear hb)) | ((with_reducible refine gate_dst (N := 13) rfl ?_); refine bx_ 13 #[.int .u64 0, .int .i64 0] 27 ?_; intro gb398 hg w77 hbox hb; replace HO_369000 := Aside0.mk (Kd.R_below (by (with_reducible repeat (first | apply Kd.R_alloc | apply Kd.R_drewN | apply Kd.R_drew)); exact HO_369000.out) hb); replace HO_389000 := Aside0.mk (Kd.R_below (by (with_reducible repeat (first | apply Kd.R_alloc | apply Kd.R_drewN | apply Kd.R_drew)); exact HO_389000.out) hb); replace HO391 := Aside0.mk (Kd.R_below (by (with_reducible repeat (first | apply Kd.R_alloc | apply Kd.R_drewN | apply Kd.R_drew)); exact HO391.out) hb); have BK398 := Aside0.mk (hbox); have GE398 := Aside0.mk (bs_4 hg HB GE368 GE369 GE380 GE388); replace HB := Aside0.mk (below_step (bl_4 HB GE368 GE369 GE380 GE388) hb); have NB368_398 := Aside0.mk (nb_ hg BK368); have NB398_368 := Aside0.mk (nc_ hg BK368); replace BK368 := Aside0.mk (bb_ BK368 hb); have NB369_398 := Aside0.mk (nb_ hg BK369); have NB398_369 := Aside0.mk (nc_ hg BK369); replace BK369 := Aside0.mk (bb_ BK369 hb); have NB380_398 := Aside0.mk (nb_ hg BK380); have NB398_380 := Aside0.mk (nc_ hg BK380); replace BK380 := Aside0.mk (bb_ BK380 hb); have NB388_398 := Aside0.mk (nb_ hg BK388); have NB398_388 := Aside0.mk (nc_ hg BK388); replace BK388 := Aside0.mk (bb_ BK388 hb); clear hb hbox hg; have hnb78 := NB398_368.out; have hnc78 := NB368_398.out; have hnb79 := NB398_369.out; have hnc79 := NB369_398.out; have hnb80 := NB398_380.out; have hnc80 := NB380_398.out; have hnb81 := NB398_388.out; have hnc81 := NB388_398.out; obtain ⟨hcz82_0, hcz82_1, hfz82_0, hfz82_1⟩ := c2_ BK398; have hnb83 := NB369_368.out; have hnc83 := NB368_369.out; have hnb84 := NB369_380.out; have hnc84 := NB380_369.out; obtain ⟨hcz85_0, hcz85_1, hfz85_0, hfz85_1⟩ := c2_ BK369; have hnb86 := NB380_368.out; have hnc86 := NB368_380.out; obtain ⟨hcz87_0, hcz87_1, hfz87_0, hfz87_1⟩ := c2_ BK380))
     go_ret
     exact ⟨by first | rfl | (simp [errW_none, errW_some] <;> rfl) | (simp only [← hji30]; first | rfl | (simp [errW_none, errW_some] <;> rfl)) | (simp [*, errW_none, errW_some] <;> rfl), bl_5 HB GE368 GE369 GE380 GE388 GE398⟩
/-- THE ONE PURE STATEMENT of gafferlaw04_HardOne: yours. -/
def gafferlaw04_HardOne.Pure : Prop := ∀ (x0 : S24) (x1 : S27) (x2 : Int) (x3 : List Int), ok24 x0 → ok27 x1 → (okInt .i64) x2 → (okSl 8 (okInt .i64)) x3 → ∃ k, gafferlaw04_HardOne.f k x0.f0 x0.f1 x0.f2 x1.f0 x1.f1 x2 x3 = some true

end Go.Proofs.Ytpigjmjbfpipnaa.PB
