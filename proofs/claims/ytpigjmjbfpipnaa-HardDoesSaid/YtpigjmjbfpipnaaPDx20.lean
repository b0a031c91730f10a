-- By a program of this session.
import Derived.Test.YtpigjmjbfpipnaaPDx0
import Derived.Test.YtpigjmjbfpipnaaPDx2
namespace Go.Proofs.Ytpigjmjbfpipnaa.PD
open Go.RowKit YtpigjmjbfpipnaaW.PrintWords YtpigjmjbfpipnaaW.PrintLast YtpigjmjbfpipnaaW.PrintMore Sh Ytpigjmjbfpipnaa.Op
attribute [local go_sem] max2_int min2_int max_two min_two max_three min_three max_four min_four
set_option linter.unusedVariables false
set_option maxHeartbeats 80000000
set_option maxRecDepth 100000
set_option linter.unusedSimpArgs false

attribute [local go_sem high] eqA71
mutual
def gafferref02_Same.j0 : Nat → Bool → List (S71) → Bool → Int → List (S71) → Bool → Int → Option (Bool)
 | 0, _, _, _, _, _, _, _ => none
 | k + 1, x26, x573000, x573001, x573002, x574000, x574001, x574002 => if x26 = true then (some false) else (gafferref02_Same.l0 k (x573000.length : Int) 0 x573000 x573001 x573002 x574000 x574001 x574002)
def gafferref02_Same.l0 : Nat → Int → Int → List (S71) → Bool → Int → List (S71) → Bool → Int → Option (Bool)
 | 0, _, _, _, _, _, _, _, _ => none
 | k + 1, x29, x30, x573000, x573001, x573002, x574000, x574001, x574002 => if x30 < x29 then (if 0 ≤ x30 then (if x30 < (x573000.length : Int) then (if x30 < (x574000.length : Int) then (if (!((((rd_T71 x573000 x30).f0).toList) == (((rd_T71 x574000 x30).f0).toList)) || (!((((rd_T71 x573000 x30).f1).toList) == (((rd_T71 x574000 x30).f1).toList)) || (!(((rd_T71 x573000 x30).f2) == ((rd_T71 x574000 x30).f2))))) = true then (some false) else (gafferref02_Same.l0 k x29 (wrap64 (x30 + 1)) x573000 x573001 x573002 x574000 x574001 x574002)) else (none)) else (none)) else (none)) else (some true)
end
def gafferref02_Same.f (k : Nat) (l0_0 : List (S71)) (a0_1 : Bool) (a0_2 : Int) (l1_0 : List (S71)) (a1_1 : Bool) (a1_2 : Int) : Option (Bool) := if (a0_1 != a1_1) = true then (gafferref02_Same.j0 k true l0_0 a0_1 a0_2 l1_0 a1_1 a1_2) else (if a0_2 = a1_2 then (gafferref02_Same.j0 k ((l0_0.length : Int) != (l1_0.length : Int)) l0_0 a0_1 a0_2 l1_0 a1_1 a1_2) else (gafferref02_Same.j0 k true l0_0 a0_1 a0_2 l1_0 a1_1 a1_2))
theorem gafferref02_Same.mono_l : ∀ k, (∀ y0 y1 y2 y3 y4 y5 y6, LeO (gafferref02_Same.j0 k y0 y1 y2 y3 y4 y5 y6) (gafferref02_Same.j0 (k + 1) y0 y1 y2 y3 y4 y5 y6)) ∧ (∀ y0 y1 y2 y3 y4 y5 y6 y7, LeO (gafferref02_Same.l0 k y0 y1 y2 y3 y4 y5 y6 y7) (gafferref02_Same.l0 (k + 1) y0 y1 y2 y3 y4 y5 y6 y7))
 | 0 => ⟨fun _ _ _ _ _ _ _ r h => by simp [gafferref02_Same.j0] at h, fun _ _ _ _ _ _ _ _ r h => by simp [gafferref02_Same.l0] at h⟩
 | k + 1 => by
  obtain ⟨ih0, ih1⟩ := gafferref02_Same.mono_l k
  refine ⟨?_, ?_⟩
  ·intro y0 y1 y2 y3 y4 y5 y6
   unfold gafferref02_Same.j0
   repeat' with_reducible first | apply ih0 | apply ih1 | apply LeO.refl | apply LeO.none | apply LeO.ite | refine LeO.bind ?_ (fun _ => ?_)
  ·intro y0 y1 y2 y3 y4 y5 y6 y7
   unfold gafferref02_Same.l0
   repeat' with_reducible first | apply ih0 | apply ih1 | apply LeO.refl | apply LeO.none | apply LeO.ite | refine LeO.bind ?_ (fun _ => ?_)
theorem gafferref02_Same.mono : ∀ a0 a1 a2 a3 a4 a5 k, LeO (gafferref02_Same.f k a0 a1 a2 a3 a4 a5) (gafferref02_Same.f (k + 1) a0 a1 a2 a3 a4 a5) := by
 intro a0 a1 a2 a3 a4 a5 k
 obtain ⟨ih0, ih1⟩ := gafferref02_Same.mono_l k
 unfold gafferref02_Same.f
 repeat' with_reducible first | apply ih0 | apply ih1 | apply LeO.refl | apply LeO.none | apply LeO.ite | refine LeO.bind ?_ (fun _ => ?_)
theorem gafferref02_Same.calls (k : Nat) (A0_0 : Option Addr) (c0_0 : Nat) (l0_0 : List (S71)) (a0_1 : Bool) (a0_2 : Int) (A1_0 : Option Addr) (c1_0 : Nat) (l1_0 : List (S71)) (a1_1 : Bool) (a1_2 : Int) (r : Bool) (w : World) (hr0_0 : Kd.C k71 w A0_0 l0_0.length l0_0) (hc0_0 : l0_0.length ≤ c0_0) (hr1_0 : Kd.C k71 w A1_0 l1_0.length l1_0) (hc1_0 : l1_0.length ≤ c1_0) (h : gafferref02_Same.f k l0_0 a0_1 a0_2 l1_0 a1_1 a1_2 = some r) :
  Calls Try.prog 20 #[.agg #[.slice A0_0 l0_0.length c0_0, .bool a0_1, .int .i64 a0_2], .agg #[.slice A1_0 l1_0.length c1_0, .bool a1_1, .int .i64 a1_2]] w fun e w' => e = .returned (.bool r) ∧ Below w.heap.size w w' := by
 have hu24 := Try.underlying24
 have hu71 := Try.underlying71
 have HR0_0 := a_ hr0_0
 have HC0_0 := a_ hc0_0
 clear hr0_0 hc0_0
 have HR1_0 := a_ hr1_0
 have HC1_0 := a_ hc1_0
 clear hr1_0 hc1_0
 have HB := a_ (Below.refl w.heap.size w)
 have H : (if (a0_1 != a1_1) = true then (gafferref02_Same.j0 k true l0_0 a0_1 a0_2 l1_0 a1_1 a1_2) else (if a0_2 = a1_2 then (gafferref02_Same.j0 k ((l0_0.length : Int) != (l1_0.length : Int)) l0_0 a0_1 a0_2 l1_0 a1_1 a1_2) else (gafferref02_Same.j0 k true l0_0 a0_1 a0_2 l1_0 a1_1 a1_2))) = some r := h
 clear h
 have HC3 := a_ H
 clear H
 go_enter Try.func20, Try.ntmps20
 go_upto_region 1 with (first | ((with_reducible refine gd_ 2 ?_); (try (refine gate_guard (by rfl) ?_; dsimp only)); refine bx_ 2 #[.slice A0_0 l0_0.length c0_0, .bool a0_1, .int .i64 a0_2] 24 ?_; intro gb572 hg w4 hbox hb; have BK572 := a_ (hbox); have GE572 := a_ (bs_0 hg HB); replace HB := hB_ (bl_ HB) hb; clear hb hbox hg) | ((with_reducible refine gd_ 3 ?_); (try (refine gate_guard (by rfl) ?_; dsimp only)); refine bx_ 3 #[.slice A1_0 l1_0.length c1_0, .bool a1_1, .int .i64 a1_2] 24 ?_; intro gb573 hg w5 hbox hb; have BK573 := a_ (hbox); have GE573 := a_ (bs_1 hg HB GE572); replace HB := hB_ (bl_1 HB GE572) hb; have NB572_573 := nB_ hg BK572; have NB573_572 := nC_ hg BK572; replace BK572 := bB_ BK572 hb; clear hb hbox hg))
 repeat (go_quiet (first | ((with_reducible refine gd_ 2 ?_); (try (refine gate_guard (by rfl) ?_; dsimp only)); refine bx_ 2 #[.slice A0_0 l0_0.length c0_0, .bool a0_1, .int .i64 a0_2] 24 ?_; intro gb572 hg w4 hbox hb; have BK572 := a_ (hbox); have GE572 := a_ (bs_0 hg HB); replace HB := hB_ (bl_ HB) hb; clear hb hbox hg) | ((with_reducible refine gd_ 3 ?_); (try (refine gate_guard (by rfl) ?_; dsimp only)); refine bx_ 3 #[.slice A1_0 l1_0.length c1_0, .bool a1_1, .int .i64 a1_2] 24 ?_; intro gb573 hg w5 hbox hb; have BK573 := a_ (hbox); have GE573 := a_ (bs_1 hg HB GE572); replace HB := hB_ (bl_1 HB GE572) hb; have NB572_573 := nB_ hg BK572; have NB573_572 := nC_ hg BK572; replace BK572 := bB_ BK572 hb; clear hb hbox hg)); go_upto_region 1 with (first | ((with_reducible refine gd_ 2 ?_); (try (refine gate_guard (by rfl) ?_; dsimp only)); refine bx_ 2 #[.slice A0_0 l0_0.length c0_0, .bool a0_1, .int .i64 a0_2] 24 ?_; intro gb572 hg w4 hbox hb; have BK572 := a_ (hbox); have GE572 := a_ (bs_0 hg HB); replace HB := hB_ (bl_ HB) hb; clear hb hbox hg) | ((with_reducible refine gd_ 3 ?_); (try (refine gate_guard (by rfl) ?_; dsimp only)); refine bx_ 3 #[.slice A1_0 l1_0.length c1_0, .bool a1_1, .int .i64 a1_2] 24 ?_; intro gb573 hg w5 hbox hb; have BK573 := a_ (hbox); have GE573 := a_ (bs_1 hg HB GE572); replace HB := hB_ (bl_1 HB GE572) hb; have NB572_573 := nB_ hg BK572; have NB573_572 := nC_ hg BK572; replace BK572 := bB_ BK572 hb; clear hb hbox hg)))
 (try simp only [Act.put, List.setIfInBounds_toArray, List.set_cons_zero, List.set_cons_succ])
 go_cut [26] (fun v26 wc => ∃ (kq : Nat) (x26_2 : Bool), v26 = .bool x26_2 ∧ Aside0 (gafferref02_Same.j0 kq x26_2 l0_0 a0_1 a0_2 l1_0 a1_1 a1_2 = some r) ∧ Aside0 (kq ≤ k) ∧ Aside0 (wc.heap[gb572]? = some (.cells #[(.slice A0_0 l0_0.length c0_0), .bool a0_1, .int .i64 a0_2] 24 (0, 0))) ∧ Aside0 (wc.heap[gb573]? = some (.cells #[(.slice A1_0 l1_0.length c1_0), .bool a1_1, .int .i64 a1_2] 24 (0, 0))) ∧ Aside0 (Below w.heap.size w wc))
 case first =>
  have H := HC3.out
  clear HC3
  by_cases c6 : (a0_1 != a1_1) = true
  ·rw [if_pos c6] at H
   have c6b0 : (a0_1 != a1_1) = true := c6
   (try (have c6b1 : decide (a0_1 = a1_1) = false := by simpa using c6))
   (try (have c6b2 : (a0_1 == a1_1) = false := by simpa using c6))
   (try (have c6b3 : ¬ (a0_1 = a1_1) := by simpa using c6))
   clear c6
   (first | rw [c6b0] | (simp only [i64_w, i32_w]; rw [c6b0]) | skip)
   have H' := a_ H
   clear H
   have hnb7 := NB572_573.out
   have hnc7 := NB573_572.out
   obtain ⟨hcz8_0, hcz8_1, hcz8_2, hfz8_0, hfz8_1, hfz8_2⟩ := c3_ BK572
   obtain ⟨hcz9_0, hcz9_1, hcz9_2, hfz9_0, hfz9_1, hfz9_2⟩ := c3_ BK573
   go_wp2
   repeat (go_quiet (fail); try go_wp2)
   go_meet
   case rel => exact ⟨_, (true), fz_, H', ⟨by first | omega | exact Nat.le_refl _⟩, ⟨bk_ BK572⟩, ⟨bk_ BK573⟩, ⟨bl_2 HB GE572 GE573⟩⟩
  rw [if_neg c6] at H
  have c6b0 : (a0_1 != a1_1) = false := by simpa using c6
  (try (have c6b1 : decide (a0_1 = a1_1) = true := by simpa using c6))
  (try (have c6b2 : (a0_1 == a1_1) = true := by simpa using c6))
  clear c6
  (first | rw [c6b0] | (simp only [i64_w, i32_w]; rw [c6b0]) | skip)
  by_cases c10 : a0_2 = a1_2
  rotate_left
  ·rw [if_neg c10] at H
   have c10b0 : (a0_2 == a1_2) = false := beq_eq_false_iff_ne.mpr c10
   have c10b1 : (a0_2 != a1_2) = true := bne_iff_ne.mpr c10
   have H' := a_ H
   clear H
   have hnb14 := NB572_573.out
   have hnc14 := NB573_572.out
   obtain ⟨hcz15_0, hcz15_1, hcz15_2, hfz15_0, hfz15_1, hfz15_2⟩ := c3_ BK572
   obtain ⟨hcz16_0, hcz16_1, hcz16_2, hfz16_0, hfz16_1, hfz16_2⟩ := c3_ BK573
   go_wp2
   repeat (go_quiet (fail); try go_wp2)
   go_meet
   case rel => exact ⟨_, (true), fz_, H', ⟨by first | omega | exact Nat.le_refl _⟩, ⟨bk_ BK572⟩, ⟨bk_ BK573⟩, ⟨bl_2 HB GE572 GE573⟩⟩
  rw [if_pos c10] at H
  have c10b0 : (a0_2 == a1_2) = true := beq_iff_eq.mpr c10
  have c10b1 : (a0_2 != a1_2) = false := bne_eq_false_iff_eq.mpr c10
  clear c10
  have H' := a_ H
  clear H
  have hnb11 := NB572_573.out
  have hnc11 := NB573_572.out
  obtain ⟨hcz12_0, hcz12_1, hcz12_2, hfz12_0, hfz12_1, hfz12_2⟩ := c3_ BK572
  obtain ⟨hcz13_0, hcz13_1, hcz13_2, hfz13_0, hfz13_1, hfz13_2⟩ := c3_ BK573
  go_wp2
  repeat (go_quiet (fail); try go_wp2)
  go_meet
  case rel => exact ⟨_, (((l0_0.length : Int) != (l1_0.length : Int))), fz_, H', ⟨by first | omega | exact Nat.le_refl _⟩, ⟨bk_ BK572⟩, ⟨bk_ BK573⟩, ⟨bl_2 HB GE572 GE573⟩⟩
 case rest =>
  clear HC3
  try clear c1
  try clear c2
  try clear p2
  try clear c6
  try clear c6b0
  try clear c6b1
  try clear c6b2
  try clear c7
  try clear c10
  try clear c10b0
  try clear c10b1
  try clear c11
  try clear c14
  obtain ⟨kq, x26_2, rfl, HA, HJ2, BK572, BK573, HB⟩ := hcut
  cases kq with
  | zero => exact absurd HA.out (by simp [gafferref02_Same.j0])
  | succ kj2 =>
   have H := HA.out
   clear HA
   simp only [gafferref02_Same.j0] at H
   by_cases c17 : x26_2 = true
   ·subst c17
    have H1 : (some false) = some r := by rw [if_pos rfl] at H; exact H
    clear H
    have H := H1
    clear H1
    obtain rfl := Option.some.inj H
    go_wp2
    repeat (go_quiet (fail); try go_wp2)
    go_ret
    exact ⟨fz_, bl_2 HB GE572 GE573⟩
   replace c17 := Bool.eq_false_iff.mpr c17
   subst c17
   have H1 : (gafferref02_Same.l0 kj2 (l0_0.length : Int) 0 l0_0 a0_1 a0_2 l1_0 a1_1 a1_2) = some r := by rw [if_neg (show ¬ (false = true) by decide)] at H; exact H
   clear H
   have H := H1
   clear H1
   have H' := a_ H
   clear H
   have hnb18 := NB572_573.out
   have hnc18 := NB573_572.out
   obtain ⟨hcz19_0, hcz19_1, hcz19_2, hfz19_0, hfz19_1, hfz19_2⟩ := c3_ BK572
   go_wp2
   repeat (go_quiet (fail); try go_wp2)
   go_loopg [30] kj2 (fun kq v30 w' => ∃ (x30_2 : Int), v30 = .int .i64 x30_2 ∧ Aside0 (gafferref02_Same.l0 kq (l0_0.length : Int) x30_2 l0_0 a0_1 a0_2 l1_0 a1_1 a1_2 = some r) ∧ Aside0 (kq ≤ kj2) ∧ Aside0 (w'.heap[gb572]? = some (.cells #[(.slice A0_0 l0_0.length c0_0), .bool a0_1, .int .i64 a0_2] 24 (0, 0))) ∧ Aside0 (w'.heap[gb573]? = some (.cells #[(.slice A1_0 l1_0.length c1_0), .bool a1_1, .int .i64 a1_2] 24 (0, 0))) ∧ Aside0 (Below w.heap.size w w'))
   case atStart => exact ⟨(0), fz_, H', ⟨Nat.le_refl _⟩, ⟨bk_ BK572⟩, ⟨bk_ BK573⟩, ⟨bl_2 HB GE572 GE573⟩⟩
   case round =>
    clear H'
    try clear c1
    try clear c2
    try clear p2
    try clear c6
    try clear c6b0
    try clear c6b1
    try clear c6b2
    try clear c7
    try clear c10
    try clear c10b0
    try clear c10b1
    try clear c11
    try clear c14
    try clear c17
    try clear c18
    try clear p2
    obtain ⟨x30_2, rfl, HA, HK2, BK572, BK573, HB⟩ := hrel
    cases gk with
    | zero => exact absurd HA.out (by simp [gafferref02_Same.l0])
    | succ k2 =>
     have H := HA.out
     clear HA
     simp only [gafferref02_Same.l0] at H
     by_cases c20 : x30_2 < (l0_0.length : Int)
     rotate_left
     ·rw [if_neg c20] at H
      have c20b0 : decide (x30_2 < (l0_0.length : Int)) = false := decide_eq_false c20
      clear c20
      obtain rfl := Option.some.inj H
      go_wp2
      repeat (go_quiet (fail); try go_wp2)
      go_ret
      exact ⟨fz_, bl_2 HB GE572 GE573⟩


     rw [if_pos c20] at H
     have c20b0 : decide (x30_2 < (l0_0.length : Int)) = true := decide_eq_true c20
     clear c20
     by_cases c21 : 0 ≤ x30_2
     rotate_left
     ·rw [if_neg c21] at H
      exact absurd H (by simp)
     rw [if_pos c21] at H
     have c21b0 : decide (0 ≤ x30_2) = true := decide_eq_true c21
     clear c21
     by_cases c22 : x30_2 < (l0_0.length : Int)
     rotate_left
     ·rw [if_neg c22] at H
      exact absurd H (by simp)
     rw [if_pos c22] at H
     have c22b0 : decide (x30_2 < (l0_0.length : Int)) = true := decide_eq_true c22
     clear c22
     by_cases c23 : x30_2 < (l1_0.length : Int)
     rotate_left
     ·rw [if_neg c23] at H
      exact absurd H (by simp)
     rw [if_pos c23] at H
     have c23b0 : decide (x30_2 < (l1_0.length : Int)) = true := decide_eq_true c23
     clear c23
     by_cases c24 : (!((((rd_T71 l0_0 x30_2).f0).toList) == (((rd_T71 l1_0 x30_2).f0).toList)) || (!((((rd_T71 l0_0 x30_2).f1).toList) == (((rd_T71 l1_0 x30_2).f1).toList)) || (!(((rd_T71 l0_0 x30_2).f2) == ((rd_T71 l1_0 x30_2).f2))))) = true
     ·rw [if_pos c24] at H
      have c24b0 : (!((((rd_T71 l0_0 x30_2).f0).toList) == (((rd_T71 l1_0 x30_2).f0).toList)) || (!((((rd_T71 l0_0 x30_2).f1).toList) == (((rd_T71 l1_0 x30_2).f1).toList)) || (!(((rd_T71 l0_0 x30_2).f2) == ((rd_T71 l1_0 x30_2).f2))))) = true := c24
      clear c24
      obtain rfl := Option.some.inj H
      have hnb25 := NB572_573.out
      have hnc25 := NB573_572.out
      obtain ⟨hcz26_0, hcz26_1, hcz26_2, hfz26_0, hfz26_1, hfz26_2⟩ := c3_ BK572
      have p574 : 0 ≤ (x30_2 : Int) := od_
      have q574 : x30_2 < (l0_0.length : Int) := od_
      obtain ⟨ad574, e574, hx574_0, hx574_1, hx574_2⟩ := at_T71 HR0_0.out x30_2 p574 q574
      cases e574
      replace hx574_0 := hc_ HB hx574_0
      replace hx574_1 := hc_ HB hx574_1
      replace hx574_2 := hc_ HB hx574_2
      replace p574 := eq_true p574
      replace q574 := eq_true q574
      obtain ⟨hcz27_0, hcz27_1, hcz27_2, hfz27_0, hfz27_1, hfz27_2⟩ := c3_ BK573
      have p575 : 0 ≤ (x30_2 : Int) := od_
      have q575 : x30_2 < (l1_0.length : Int) := od_
      obtain ⟨ad575, e575, hx575_0, hx575_1, hx575_2⟩ := at_T71 HR1_0.out x30_2 p575 q575
      cases e575
      replace hx575_0 := hc_ HB hx575_0
      replace hx575_1 := hc_ HB hx575_1
      replace hx575_2 := hc_ HB hx575_2
      replace p575 := eq_true p575
      replace q575 := eq_true q575
      go_wp2
      repeat (go_quiet (fail); try go_wp2)
      go_ret
      exact ⟨fz_, bl_2 HB GE572 GE573⟩
     rw [if_neg c24] at H
     have c24b0 : (!((((rd_T71 l0_0 x30_2).f0).toList) == (((rd_T71 l1_0 x30_2).f0).toList)) || (!((((rd_T71 l0_0 x30_2).f1).toList) == (((rd_T71 l1_0 x30_2).f1).toList)) || (!(((rd_T71 l0_0 x30_2).f2) == ((rd_T71 l1_0 x30_2).f2))))) = false := by simpa using c24
     clear c24
     have H' := a_ H
     clear H
     have hnb28 := NB572_573.out
     have hnc28 := NB573_572.out
     obtain ⟨hcz29_0, hcz29_1, hcz29_2, hfz29_0, hfz29_1, hfz29_2⟩ := c3_ BK572
     have p574 : 0 ≤ (x30_2 : Int) := od_
     have q574 : x30_2 < (l0_0.length : Int) := od_
     obtain ⟨ad574, e574, hx574_0, hx574_1, hx574_2⟩ := at_T71 HR0_0.out x30_2 p574 q574
     cases e574
     replace hx574_0 := hc_ HB hx574_0
     replace hx574_1 := hc_ HB hx574_1
     replace hx574_2 := hc_ HB hx574_2
     replace p574 := eq_true p574
     replace q574 := eq_true q574
     obtain ⟨hcz30_0, hcz30_1, hcz30_2, hfz30_0, hfz30_1, hfz30_2⟩ := c3_ BK573
     have p575 : 0 ≤ (x30_2 : Int) := od_
     have q575 : x30_2 < (l1_0.length : Int) := od_
     obtain ⟨ad575, e575, hx575_0, hx575_1, hx575_2⟩ := at_T71 HR1_0.out x30_2 p575 q575
     cases e575
     replace hx575_0 := hc_ HB hx575_0
     replace hx575_1 := hc_ HB hx575_1
     replace hx575_2 := hc_ HB hx575_2
     replace p575 := eq_true p575
     replace q575 := eq_true q575
     go_wp2
     repeat (go_quiet (fail); try go_wp2)
     go_roundg k2
     case measure => have := HJ2.out; have := HK2.out; omega
     case rel => exact ⟨(wrap64 (x30_2 + 1)), fz_, H', ⟨by have := HJ2.out; have := HK2.out; omega⟩, ⟨bk_ BK572⟩, ⟨bk_ BK573⟩, ⟨bl_2 HB GE572 GE573⟩⟩end Go.Proofs.Ytpigjmjbfpipnaa.PD
