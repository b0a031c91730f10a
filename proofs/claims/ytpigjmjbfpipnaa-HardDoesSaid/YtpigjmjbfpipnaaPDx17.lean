-- By a program of this session.
import Derived.Test.YtpigjmjbfpipnaaPDx0
import Derived.Test.YtpigjmjbfpipnaaPDx3
import Derived.Test.YtpigjmjbfpipnaaPDx6
import Derived.Test.YtpigjmjbfpipnaaPDx13
import Derived.Test.YtpigjmjbfpipnaaPDx14
namespace Go.Proofs.Ytpigjmjbfpipnaa.PD
open Go.RowKit YtpigjmjbfpipnaaW.PrintWords YtpigjmjbfpipnaaW.PrintLast YtpigjmjbfpipnaaW.PrintMore Sh Ytpigjmjbfpipnaa.Op
attribute [local go_sem] max2_int min2_int max_two min_two max_three min_three max_four min_four
set_option linter.unusedVariables false
set_option maxHeartbeats 80000000
set_option maxRecDepth 100000
set_option linter.unusedSimpArgs false

mutual
def gafferref02_Swap.j0 : Nat → ByteArray → ByteArray → Int → Int → Bool → List (S71) → Bool → Int → Option ((List (S71)) × Bool × Int × Int)
 | 0, _, _, _, _, _, _, _, _ => none
 | k + 1, x1, x2, x8, x9, x23, x457000, x457001, x457002 => if x23 = true then (gafferref02_Swap.j1 k x1 x2 6 x9 x457000 x457001 x457002) else (gafferref02_Swap.j1 k x1 x2 x8 x9 x457000 x457001 x457002)
def gafferref02_Swap.j1 : Nat → ByteArray → ByteArray → Int → Int → List (S71) → Bool → Int → Option ((List (S71)) × Bool × Int × Int)
 | 0, _, _, _, _, _, _, _ => none
 | k + 1, x1, x2, x8, x9, x457000, x457001, x457002 => if x8 = 0 then (if 0 ≤ x9 then (if x9 < (x457000.length : Int) then (gafferref02_Swap.j2 k x1 x2 x8 x9 (decide (((rd_T71 x457000 x9).f2) < (((rd_T71 x457000 x9).f1).size : Int))) x457000 x457001 x457002) else (none)) else (none)) else (gafferref02_Swap.j2 k x1 x2 x8 x9 false x457000 x457001 x457002)
def gafferref02_Swap.j2 : Nat → ByteArray → ByteArray → Int → Int → Bool → List (S71) → Bool → Int → Option ((List (S71)) × Bool × Int × Int)
 | 0, _, _, _, _, _, _, _, _ => none
 | k + 1, x1, x2, x8, x9, x41, x457000, x457001, x457002 => if x41 = true then (gafferref02_Swap.j3 k x1 x2 9 x9 x457000 x457001 x457002) else (gafferref02_Swap.j3 k x1 x2 x8 x9 x457000 x457001 x457002)
def gafferref02_Swap.j3 : Nat → ByteArray → ByteArray → Int → Int → List (S71) → Bool → Int → Option ((List (S71)) × Bool × Int × Int)
 | 0, _, _, _, _, _, _, _ => none
 | k + 1, x1, x2, x8, x9, x457000, x457001, x457002 => if x8 = 0 then ((gafferref02_name.f x2).bind fun t462 => (gafferref02_Swap.j4 k x1 x2 x8 x9 (!t462) x457000 x457001 x457002)) else (gafferref02_Swap.j4 k x1 x2 x8 x9 false x457000 x457001 x457002)
def gafferref02_Swap.j4 : Nat → ByteArray → ByteArray → Int → Int → Bool → List (S71) → Bool → Int → Option ((List (S71)) × Bool × Int × Int)
 | 0, _, _, _, _, _, _, _, _ => none
 | k + 1, x1, x2, x8, x9, x48, x457000, x457001, x457002 => if x48 = true then (gafferref02_Swap.j5 k x1 x2 5 x9 x457000 x457001 x457002) else (gafferref02_Swap.j5 k x1 x2 x8 x9 x457000 x457001 x457002)
def gafferref02_Swap.j5 : Nat → ByteArray → ByteArray → Int → Int → List (S71) → Bool → Int → Option ((List (S71)) × Bool × Int × Int)
 | 0, _, _, _, _, _, _, _ => none
 | k + 1, x1, x2, x8, x9, x457000, x457001, x457002 => if x8 = 0 then ((gafferref02_Copy.f x457000 x457001 x457002).bind fun bt469 => ((gafferref02_burnt.f bt469.1 bt469.2.1 bt469.2.2).bind fun bt474 => (if bt474.2.2.2 = true then (if 0 ≤ x9 then (if x9 < (bt474.1.length : Int) then ((gafferref02_without.f k bt474.1 bt474.2.1 bt474.2.2.1 x1).bind fun bt483 => ((gafferref02_with.f k bt483.1 bt483.2.1 bt483.2.2 x2 ((rd_T71 bt474.1 x9).f1) ((rd_T71 bt474.1 x9).f2)).bind fun bt488 => (some (bt488.1, bt488.2.1, bt488.2.2, 0)))) else (none)) else (none)) else (some (bt474.1, bt474.2.1, bt474.2.2.1, 8))))) else ((gafferref02_bad.f x457000 x457001 x457002 x8).bind fun bt463 => (some (bt463.1, bt463.2.1, bt463.2.2.1, bt463.2.2.2)))
end
def gafferref02_Swap.f (k : Nat) (l0_0 : List (S71)) (a0_1 : Bool) (a0_2 : Int) (a1 : ByteArray) (a2 : ByteArray) : Option ((List (S71)) × Bool × Int × Int) := (gafferref02_ready.f k l0_0 a0_1 a0_2).bind fun t458 => ((gafferref02_find.f k l0_0 a0_1 a0_2 a1).bind fun t459 => (if t458 = 0 then (gafferref02_Swap.j0 k a1 a2 t458 t459 (decide (t459 < 0)) l0_0 a0_1 a0_2) else (gafferref02_Swap.j0 k a1 a2 t458 t459 false l0_0 a0_1 a0_2)))
theorem gafferref02_Swap.mono_l : ∀ k, (∀ y0 y1 y2 y3 y4 y5 y6 y7, LeO (gafferref02_Swap.j0 k y0 y1 y2 y3 y4 y5 y6 y7) (gafferref02_Swap.j0 (k + 1) y0 y1 y2 y3 y4 y5 y6 y7)) ∧ (∀ y0 y1 y2 y3 y4 y5 y6, LeO (gafferref02_Swap.j1 k y0 y1 y2 y3 y4 y5 y6) (gafferref02_Swap.j1 (k + 1) y0 y1 y2 y3 y4 y5 y6)) ∧ (∀ y0 y1 y2 y3 y4 y5 y6 y7, LeO (gafferref02_Swap.j2 k y0 y1 y2 y3 y4 y5 y6 y7) (gafferref02_Swap.j2 (k + 1) y0 y1 y2 y3 y4 y5 y6 y7)) ∧ (∀ y0 y1 y2 y3 y4 y5 y6, LeO (gafferref02_Swap.j3 k y0 y1 y2 y3 y4 y5 y6) (gafferref02_Swap.j3 (k + 1) y0 y1 y2 y3 y4 y5 y6)) ∧ (∀ y0 y1 y2 y3 y4 y5 y6 y7, LeO (gafferref02_Swap.j4 k y0 y1 y2 y3 y4 y5 y6 y7) (gafferref02_Swap.j4 (k + 1) y0 y1 y2 y3 y4 y5 y6 y7)) ∧ (∀ y0 y1 y2 y3 y4 y5 y6, LeO (gafferref02_Swap.j5 k y0 y1 y2 y3 y4 y5 y6) (gafferref02_Swap.j5 (k + 1) y0 y1 y2 y3 y4 y5 y6))
 | 0 => ⟨fun _ _ _ _ _ _ _ _ r h => by simp [gafferref02_Swap.j0] at h, fun _ _ _ _ _ _ _ r h => by simp [gafferref02_Swap.j1] at h, fun _ _ _ _ _ _ _ _ r h => by simp [gafferref02_Swap.j2] at h, fun _ _ _ _ _ _ _ r h => by simp [gafferref02_Swap.j3] at h, fun _ _ _ _ _ _ _ _ r h => by simp [gafferref02_Swap.j4] at h, fun _ _ _ _ _ _ _ r h => by simp [gafferref02_Swap.j5] at h⟩
 | k + 1 => by
  obtain ⟨ih0, ih1, ih2, ih3, ih4, ih5⟩ := gafferref02_Swap.mono_l k
  refine ⟨?_, ?_, ?_, ?_, ?_, ?_⟩
  ·intro y0 y1 y2 y3 y4 y5 y6 y7
   unfold gafferref02_Swap.j0
   repeat' with_reducible first | apply ih0 | apply ih1 | apply ih2 | apply ih3 | apply ih4 | apply ih5 | apply gafferref02_find.mono | apply gafferref02_ready.mono | apply gafferref02_with.mono | apply gafferref02_without.mono | apply LeO.refl | apply LeO.none | apply LeO.ite | refine LeO.bind ?_ (fun _ => ?_)
  ·intro y0 y1 y2 y3 y4 y5 y6
   unfold gafferref02_Swap.j1
   repeat' with_reducible first | apply ih0 | apply ih1 | apply ih2 | apply ih3 | apply ih4 | apply ih5 | apply gafferref02_find.mono | apply gafferref02_ready.mono | apply gafferref02_with.mono | apply gafferref02_without.mono | apply LeO.refl | apply LeO.none | apply LeO.ite | refine LeO.bind ?_ (fun _ => ?_)
  ·intro y0 y1 y2 y3 y4 y5 y6 y7
   unfold gafferref02_Swap.j2
   repeat' with_reducible first | apply ih0 | apply ih1 | apply ih2 | apply ih3 | apply ih4 | apply ih5 | apply gafferref02_find.mono | apply gafferref02_ready.mono | apply gafferref02_with.mono | apply gafferref02_without.mono | apply LeO.refl | apply LeO.none | apply LeO.ite | refine LeO.bind ?_ (fun _ => ?_)
  ·intro y0 y1 y2 y3 y4 y5 y6
   unfold gafferref02_Swap.j3
   repeat' with_reducible first | apply ih0 | apply ih1 | apply ih2 | apply ih3 | apply ih4 | apply ih5 | apply gafferref02_find.mono | apply gafferref02_ready.mono | apply gafferref02_with.mono | apply gafferref02_without.mono | apply LeO.refl | apply LeO.none | apply LeO.ite | refine LeO.bind ?_ (fun _ => ?_)
  ·intro y0 y1 y2 y3 y4 y5 y6 y7
   unfold gafferref02_Swap.j4
   repeat' with_reducible first | apply ih0 | apply ih1 | apply ih2 | apply ih3 | apply ih4 | apply ih5 | apply gafferref02_find.mono | apply gafferref02_ready.mono | apply gafferref02_with.mono | apply gafferref02_without.mono | apply LeO.refl | apply LeO.none | apply LeO.ite | refine LeO.bind ?_ (fun _ => ?_)
  ·intro y0 y1 y2 y3 y4 y5 y6
   unfold gafferref02_Swap.j5
   repeat' with_reducible first | apply ih0 | apply ih1 | apply ih2 | apply ih3 | apply ih4 | apply ih5 | apply gafferref02_find.mono | apply gafferref02_ready.mono | apply gafferref02_with.mono | apply gafferref02_without.mono | apply LeO.refl | apply LeO.none | apply LeO.ite | refine LeO.bind ?_ (fun _ => ?_)
theorem gafferref02_Swap.mono : ∀ a0 a1 a2 a3 a4 k, LeO (gafferref02_Swap.f k a0 a1 a2 a3 a4) (gafferref02_Swap.f (k + 1) a0 a1 a2 a3 a4) := by
 intro a0 a1 a2 a3 a4 k
 obtain ⟨ih0, ih1, ih2, ih3, ih4, ih5⟩ := gafferref02_Swap.mono_l k
 unfold gafferref02_Swap.f
 repeat' with_reducible first | apply ih0 | apply ih1 | apply ih2 | apply ih3 | apply ih4 | apply ih5 | apply gafferref02_find.mono | apply gafferref02_ready.mono | apply gafferref02_with.mono | apply gafferref02_without.mono | apply LeO.refl | apply LeO.none | apply LeO.ite | refine LeO.bind ?_ (fun _ => ?_)
def gafferref02_Swap.T5 : Bool × List (List Nat × List Nat) := (true, [([], []), ([0], [0]), ([1], [1]), ([2], [2]), ([3, 2], [2, 3]), ([2], [2]), ([4, 5, 2], [2, 4, 5]), ([6, 2], [2, 6]), ([7, 2], [2, 7]), ([2], [2]), ([9, 2], [2, 9]), ([2], [2]), ([10, 11, 2], [2, 10, 11]), ([12, 2], [2, 12]), ([13, 2], [2, 13]), ([14, 2], [2, 14]), ([8, 15, 2], [2, 8, 15]), ([2, 16], [2, 16])])
def gafferref02_Swap.B5 : List Nat := [0, 1, 3, 7, 15, 7, 63, 127, 255, 7, 519, 7, 3591, 7687, 15879, 32263, 65535, 131071]
theorem gafferref02_Swap.tab5 : rtab .any (opsOf Try.f78 5) = gafferref02_Swap.T5 := by kernel_rfl
theorem gafferref02_Swap.bits5 : waitsOk gafferref02_Swap.T5.2 gafferref02_Swap.B5 = true := by kernel_rfl
theorem gafferref02_Swap.calls (k : Nat) (A0_0 : Option Addr) (c0_0 : Nat) (l0_0 : List (S71)) (a0_1 : Bool) (a0_2 : Int) (a1 : ByteArray) (a2 : ByteArray) (r1 : List (S71)) (r2 : Bool) (r3 : Int) (r4 : Int) (w : World) (hr0_0 : Kd.C k71 w A0_0 l0_0.length l0_0) (hc0_0 : l0_0.length ≤ c0_0) (h : gafferref02_Swap.f k l0_0 a0_1 a0_2 a1 a2 = some (r1, r2, r3, r4)) :
  Calls Try.prog 78 #[.agg #[.slice A0_0 l0_0.length c0_0, .bool a0_1, .int .i64 a0_2], .string a1, .string a2] w fun e w' => ∃ v0_ : Value, e = .returned (.tuple #[.agg #[v0_, .bool r2, .int .i64 r3], .int .i64 r4]) ∧ Kd.R k71 71 w' w.heap.size (fun _ => True) v0_ r1 ∧ Below w.heap.size w w' := by
 have hu24 := Try.underlying24
 have hu71 := Try.underlying71
 have HR0_0 := a_ hr0_0
 have HC0_0 := a_ hc0_0
 clear hr0_0 hc0_0
 have HB := a_ (Below.refl w.heap.size w)
 have H : ((gafferref02_ready.f k l0_0 a0_1 a0_2).bind fun t458 => ((gafferref02_find.f k l0_0 a0_1 a0_2 a1).bind fun t459 => (if t458 = 0 then (gafferref02_Swap.j0 k a1 a2 t458 t459 (decide (t459 < 0)) l0_0 a0_1 a0_2) else (gafferref02_Swap.j0 k a1 a2 t458 t459 false l0_0 a0_1 a0_2)))) = some (r1, r2, r3, r4) := h
 clear h
 obtain ⟨t458, A40, H⟩ := Option.bind_eq_some_iff.mp H
 try dsimp only at H
 have A4 := a_ A40
 clear A40
 obtain ⟨t459, A50, H⟩ := Option.bind_eq_some_iff.mp H
 try dsimp only at H
 have A5 := a_ A50
 clear A50
 have HC6 := a_ H
 clear H
 go_enter Try.func78, Try.ntmps78
 go_upto_region 3 with (first | ((with_reducible refine gd_ 3 ?_); (try (refine gate_guard (by rfl) ?_; dsimp only)); refine bx_ 3 #[.slice A0_0 l0_0.length c0_0, .bool a0_1, .int .i64 a0_2] 24 ?_; intro gb456 hg w7 hbox hb; have BK456 := a_ (hbox); have GE456 := a_ (bs_0 hg HB); replace HB := hB_ (bl_ HB) hb; clear hb hbox hg) | ((with_reducible refine gd_ 6 ?_); (try (refine gate_guard (by rfl) ?_; dsimp only)); refine bx_ 6 #[.slice none 0 0, .bool false, .int .i64 0] 24 ?_; intro gb457 hg w8 hbox hb; have BK457 := a_ (hbox); have GE457 := a_ (bs_1 hg HB GE456); replace HB := hB_ (bl_1 HB GE456) hb; have NB456_457 := nB_ hg BK456; have NB457_456 := nC_ hg BK456; replace BK456 := bB_ BK456 hb; clear hb hbox hg; have hnb9 := NB456_457.out; have hnc9 := NB457_456.out; obtain ⟨hcz10_0, hcz10_1, hcz10_2, hfz10_0, hfz10_1, hfz10_2⟩ := c3_ BK456) | ((with_reducible refine gk_ 97 ?_); refine gl_ (some 14) Try.func97 #[.agg #[.slice A0_0 l0_0.length c0_0, .bool a0_1, .int .i64 a0_2]] ?_; (with_reducible refine (gafferref02_ready.calls k _ _ l0_0 a0_1 a0_2 t458 _ ?side1 ?side2 A4.out).mono ?_); (case side1 => exact cl_ (Kd.C_below HR0_0.out HB.out)); (case side2 => exact HC0_0.out); rintro e w11 ⟨rfl, hb⟩; refine ⟨_, rfl, ?_⟩; replace BK456 := bB_ BK456 hb; replace BK457 := bB_ BK457 hb; replace HB := hB_ (bl_2 HB GE456 GE457) hb; (try clear hb); obtain ⟨hcz12_0, hcz12_1, hcz12_2, hfz12_0, hfz12_1, hfz12_2⟩ := c3_ BK456) | ((with_reducible refine gk_ 64 ?_); refine gl_ (some 17) Try.func64 #[.agg #[.slice A0_0 l0_0.length c0_0, .bool a0_1, .int .i64 a0_2], .string a1] ?_; (with_reducible refine (gafferref02_find.calls k _ _ l0_0 a0_1 a0_2 a1 t459 _ ?side1 ?side2 A5.out).mono ?_); (case side1 => exact cl_ (Kd.C_below HR0_0.out HB.out)); (case side2 => exact HC0_0.out); rintro e w13 ⟨rfl, hb⟩; refine ⟨_, rfl, ?_⟩; replace BK456 := bB_ BK456 hb; replace BK457 := bB_ BK457 hb; replace HB := hB_ (bl_2 HB GE456 GE457) hb; (try clear hb)))
 (try simp only [Act.put, List.setIfInBounds_toArray, List.set_cons_zero, List.set_cons_succ])
 go_cut [23] (fun v23 wc => ∃ (kq : Nat) (x23_5 : Bool), v23 = .bool x23_5 ∧ Aside0 (gafferref02_Swap.j0 kq a1 a2 t458 t459 x23_5 l0_0 a0_1 a0_2 = some (r1, r2, r3, r4)) ∧ Aside0 (kq ≤ k) ∧ Aside0 (wc.heap[gb456]? = some (.cells #[(.slice A0_0 l0_0.length c0_0), .bool a0_1, .int .i64 a0_2] 24 (0, 0))) ∧ Aside0 (wc.heap[gb457]? = some (.cells #[(.slice none 0 0), .bool false, .int .i64 0] 24 (0, 0))) ∧ Aside0 (Below w.heap.size w wc))
 case first =>
  have H := HC6.out
  clear HC6
  by_cases c14 : t458 = 0
  rotate_left
  ·rw [if_neg c14] at H
   have c14b0 : (t458 == 0) = false := beq_eq_false_iff_ne.mpr c14
   have c14b1 : (t458 != 0) = true := bne_iff_ne.mpr c14
   (first | rw [c14b0] | (simp only [i64_w, i32_w]; rw [c14b0]) | skip)
   have H' := a_ H
   clear H
   go_wp2
   go_meet
   case rel => exact ⟨_, (false), fz_, H', ⟨by first | omega | exact Nat.le_refl _⟩, ⟨bk_ BK456⟩, ⟨bk_ BK457⟩, ⟨bl_2 HB GE456 GE457⟩⟩
  rw [if_pos c14] at H
  have c14b0 : (t458 == 0) = true := beq_iff_eq.mpr c14
  have c14b1 : (t458 != 0) = false := bne_eq_false_iff_eq.mpr c14
  clear c14
  (first | rw [c14b0] | (simp only [i64_w, i32_w]; rw [c14b0]) | skip)
  have H' := a_ H
  clear H
  go_wp2
  go_meet
  case rel => exact ⟨_, (decide (t459 < 0)), fz_, H', ⟨by first | omega | exact Nat.le_refl _⟩, ⟨bk_ BK456⟩, ⟨bk_ BK457⟩, ⟨bl_2 HB GE456 GE457⟩⟩
 case rest =>
  clear HC6
  try clear c1
  try clear p2
  try clear c6
  try clear c7
  try clear c9
  try clear c14
  try clear c14b0
  try clear c14b1
  obtain ⟨kq, x23_5, rfl, HA, HJ5, BK456, BK457, HB⟩ := hcut
  cases kq with
  | zero => exact absurd HA.out (by simp [gafferref02_Swap.j0])
  | succ kj5 =>
   have H := HA.out
   clear HA
   simp only [gafferref02_Swap.j0] at H
   have HC15 := a_ H
   clear H
   go_upto_if 23 with (fail)
   go_cut [8] (fun v8 wc => ∃ (kq : Nat) (x8_14 : Int), v8 = .int .i64 x8_14 ∧ Aside0 (gafferref02_Swap.j1 kq a1 a2 x8_14 t459 l0_0 a0_1 a0_2 = some (r1, r2, r3, r4)) ∧ Aside0 (kq ≤ kj5) ∧ Aside0 (wc.heap[gb456]? = some (.cells #[(.slice A0_0 l0_0.length c0_0), .bool a0_1, .int .i64 a0_2] 24 (0, 0))) ∧ Aside0 (wc.heap[gb457]? = some (.cells #[(.slice none 0 0), .bool false, .int .i64 0] 24 (0, 0))) ∧ Aside0 (Below w.heap.size w wc))
   case first =>
    have H := HC15.out
    clear HC15
    by_cases c16 : x23_5 = true
    ·subst c16
     have H1 : (gafferref02_Swap.j1 kj5 a1 a2 6 t459 l0_0 a0_1 a0_2) = some (r1, r2, r3, r4) := by rw [if_pos rfl] at H; exact H
     clear H
     have H := H1
     clear H1
     have H' := a_ H
     clear H
     go_wp2
     go_meet
     case rel => exact ⟨_, (6), fz_, H', ⟨by have := HJ5.out; first | omega | exact Nat.le_refl _⟩, ⟨bk_ BK456⟩, ⟨bk_ BK457⟩, ⟨bl_2 HB GE456 GE457⟩⟩
    replace c16 := Bool.eq_false_iff.mpr c16
    subst c16
    have H1 : (gafferref02_Swap.j1 kj5 a1 a2 t458 t459 l0_0 a0_1 a0_2) = some (r1, r2, r3, r4) := by rw [if_neg (show ¬ (false = true) by decide)] at H; exact H
    clear H
    have H := H1
    clear H1
    have H' := a_ H
    clear H
    go_wp2
    go_meet
    case rel => exact ⟨_, (t458), fz_, H', ⟨by have := HJ5.out; first | omega | exact Nat.le_refl _⟩, ⟨bk_ BK456⟩, ⟨bk_ BK457⟩, ⟨bl_2 HB GE456 GE457⟩⟩
   case rest =>
    clear HC15
    try clear c1
    try clear p2
    try clear c6
    try clear c7
    try clear c9
    try clear c14
    try clear c14b0
    try clear c14b1
    try clear c16
    try clear p2
    obtain ⟨kq, x8_14, rfl, HA, HJ14, BK456, BK457, HB⟩ := hcut
    cases kq with
    | zero => exact absurd HA.out (by simp [gafferref02_Swap.j1])
    | succ kj14 =>
     have H := HA.out
     clear HA
     simp only [gafferref02_Swap.j1] at H
     have HC17 := a_ H
     clear H
     go_upto_region 5 with (fail)
     go_cut [41] (fun v41 wc => ∃ (kq : Nat) (x41_16 : Bool), v41 = .bool x41_16 ∧ Aside0 (gafferref02_Swap.j2 kq a1 a2 x8_14 t459 x41_16 l0_0 a0_1 a0_2 = some (r1, r2, r3, r4)) ∧ Aside0 (kq ≤ kj14) ∧ Aside0 (wc.heap[gb456]? = some (.cells #[(.slice A0_0 l0_0.length c0_0), .bool a0_1, .int .i64 a0_2] 24 (0, 0))) ∧ Aside0 (wc.heap[gb457]? = some (.cells #[(.slice none 0 0), .bool false, .int .i64 0] 24 (0, 0))) ∧ Aside0 (Below w.heap.size w wc))
     case first =>
      have H := HC17.out
      clear HC17
      by_cases c18 : x8_14 = 0
      rotate_left
      ·rw [if_neg c18] at H
       have c18b0 : (x8_14 == 0) = false := beq_eq_false_iff_ne.mpr c18
       have c18b1 : (x8_14 != 0) = true := bne_iff_ne.mpr c18
       (first | rw [c18b0] | (simp only [i64_w, i32_w]; rw [c18b0]) | skip)
       have H' := a_ H
       clear H
       try go_wp2
       have n0_ := a_ (blk_drew BK456.out)
       have n1_ := a_ (blk_drew BK457.out)
       have n2_ := a_ (below_drew1 HB.out)
       clear BK456
       clear BK457
       clear HB
       have BK456 := n0_
       have BK457 := n1_
       have HB := n2_
       clear n0_ n1_ n2_
       refine start_ (n := 18) (S := fun w' => True) (ds := []) #[false, false, false, false, false, false, false, false, false, false, false, false, false, false, false, false, false, false] (by kernel_rfl) rfl rfl trivial (fun hHeld => ?_); refine with_tabW gafferref02_Swap.tab5 gafferref02_Swap.bits5 (fun HT_ HW_ => ?_)
       generalize wc.drew = w22 at BK456 BK457 HB hHeld ⊢
       refine pu_ HT_ 0 (some 24) ?_
       refine pu_ HT_ 1 (some 25) ?_
       refine pu_ HT_ 2 (some 26) ?_
       refine pv_ HT_ 3 (some 27) ?_
       refine pv_ HT_ 4 (some 28) ?_
       refine pv_ HT_ 5 (some 29) ?_
       refine pv_ HT_ 6 (some 30) ?_
       refine pv_ HT_ 7 (some 31) ?_
       refine pv_ HT_ 8 (some 32) ?_
       refine pv_ HT_ 9 (some 33) ?_
       refine pv_ HT_ 10 (some 34) ?_
       refine pv_ HT_ 11 (some 35) ?_
       refine pv_ HT_ 12 (some 36) ?_
       refine pv_ HT_ 13 (some 37) ?_
       refine pv_ HT_ 14 (some 38) ?_
       refine pv_ HT_ 15 (some 39) ?_
       refine pv_ HT_ 16 (some 40) ?_
       refine pu_ HT_ 17 (some 41) ?_
       refine done_ (done_of HT_.out (by kernel_rfl)) ?_
       try go_wp2
       go_meet
       case rel => exact ⟨_, (false), fz_, H', ⟨by have := HJ5.out; have := HJ14.out; first | omega | exact Nat.le_refl _⟩, ⟨bk_ BK456⟩, ⟨bk_ BK457⟩, ⟨bl_2 HB GE456 GE457⟩⟩
      rw [if_pos c18] at H
      have c18b0 : (x8_14 == 0) = true := beq_iff_eq.mpr c18
      have c18b1 : (x8_14 != 0) = false := bne_eq_false_iff_eq.mpr c18
      clear c18
      (first | rw [c18b0] | (simp only [i64_w, i32_w]; rw [c18b0]) | skip)
      by_cases c19 : 0 ≤ t459
      rotate_left
      ·rw [if_neg c19] at H
       exact absurd H (by simp)
      rw [if_pos c19] at H
      have c19b0 : decide (0 ≤ t459) = true := decide_eq_true c19
      clear c19
      by_cases c20 : t459 < (l0_0.length : Int)
      rotate_left
      ·rw [if_neg c20] at H
       exact absurd H (by simp)
      rw [if_pos c20] at H
      have c20b0 : decide (t459 < (l0_0.length : Int)) = true := decide_eq_true c20
      clear c20
      have H' := a_ H
      clear H
      try go_wp2
      have n0_ := a_ (blk_drew BK456.out)
      have n1_ := a_ (blk_drew BK457.out)
      have n2_ := a_ (below_drew1 HB.out)
      clear BK456
      clear BK457
      clear HB
      have BK456 := n0_
      have BK457 := n1_
      have HB := n2_
      clear n0_ n1_ n2_
      have p460 : 0 ≤ (t459 : Int) := od_
      have q460 : t459 < (l0_0.length : Int) := od_
      obtain ⟨ad460, e460, hx460_0, hx460_1, hx460_2⟩ := at_T71 HR0_0.out t459 p460 q460
      have hw460_2 := hx460_2
      have hw460_1 := hx460_1
      have hw460_0 := hx460_0
      cases e460
      replace hx460_0 := hc_ HB hx460_0
      replace hx460_1 := hc_ HB hx460_1
      replace hx460_2 := hc_ HB hx460_2
      replace p460 := eq_true p460
      replace q460 := eq_true q460
      have p461 : 0 ≤ (t459 : Int) := od_
      have q461 : t459 < (l0_0.length : Int) := od_
      obtain ⟨ad461, e461, hx461_0, hx461_1, hx461_2⟩ := at_T71 HR0_0.out t459 p461 q461
      have hw461_2 := hx461_2
      have hw461_1 := hx461_1
      have hw461_0 := hx461_0
      obtain rfl : ad460 = ad461 := (by injection e461)
      replace hx461_0 := hc_ HB hx461_0
      replace hx461_1 := hc_ HB hx461_1
      replace hx461_2 := hc_ HB hx461_2
      replace p461 := eq_true p461
      replace q461 := eq_true q461
      refine start_ (n := 18) (S := fun w' => w'.cell? ⟨gb456, 0, none⟩ = some (.slice (some ad460) l0_0.length c0_0) ∧ w'.cell? ⟨gb456, 1, none⟩ = some (.bool a0_1) ∧ w'.cell? ⟨gb456, 2, none⟩ = some (.int .i64 a0_2) ∧ w'.cell? (ad460.add ((t459).toNat * 3)) = some (.string ((rd_T71 l0_0 t459).f0)) ∧ w'.cell? ⟨(ad460.add ((t459).toNat * 3)).block, (ad460.add ((t459).toNat * 3)).off + 1, none⟩ = some (.string ((rd_T71 l0_0 t459).f1)) ∧ w'.cell? ⟨(ad460.add ((t459).toNat * 3)).block, (ad460.add ((t459).toNat * 3)).off + 2, none⟩ = some (.int .i64 ((rd_T71 l0_0 t459).f2)) ∧ w'.cell? (ad460.add ((t459).toNat * 3)) = some (.string ((rd_T71 l0_0 t459).f0)) ∧ w'.cell? ⟨(ad460.add ((t459).toNat * 3)).block, (ad460.add ((t459).toNat * 3)).off + 1, none⟩ = some (.string ((rd_T71 l0_0 t459).f1)) ∧ w'.cell? ⟨(ad460.add ((t459).toNat * 3)).block, (ad460.add ((t459).toNat * 3)).off + 2, none⟩ = some (.int .i64 ((rd_T71 l0_0 t459).f2))) (ds := []) #[false, false, false, false, false, false, false, false, false, false, false, false, false, false, false, false, false, false] (by kernel_rfl) rfl rfl ⟨(blk_cell BK456.out 0).trans rfl, (blk_cell BK456.out 1).trans rfl, (blk_cell BK456.out 2).trans rfl, ((HB.out.cell (World.block_lt_of_cell? w _ hw460_0)).trans hw460_0), ((HB.out.cell (World.block_lt_of_cell? w _ hw460_1)).trans hw460_1), ((HB.out.cell (World.block_lt_of_cell? w _ hw460_2)).trans hw460_2), ((HB.out.cell (World.block_lt_of_cell? w _ hw461_0)).trans hw461_0), ((HB.out.cell (World.block_lt_of_cell? w _ hw461_1)).trans hw461_1), ((HB.out.cell (World.block_lt_of_cell? w _ hw461_2)).trans hw461_2)⟩ (fun hHeld => ?_); refine with_tabW gafferref02_Swap.tab5 gafferref02_Swap.bits5 (fun HT_ HW_ => ?_)
      generalize wc.drew = w21 at BK456 BK457 HB hx460_0 hx460_1 hx460_2 hx461_0 hx461_1 hx461_2 hHeld ⊢
      refine pu_ HT_ 0 (some 24) ?_
      refine pu_ HT_ 1 (some 25) ?_
      refine pu_ HT_ 2 (some 26) ?_
      refine pu_ HT_ 3 (some 27) ?_
      refine pu_ HT_ 5 (some 29) ?_
      refine pu_ HT_ 9 (some 33) ?_
      refine pu_ HT_ 11 (some 35) ?_
      refine take_ (i := 4) (N := some 28) (v := ?_) (a' := ?_) #[true, true, true, true, true, true, false, false, false, true, false, true, false, false, false, false, false, false] rfl rfl (take_ofW HT_.out HW_.out (by kernel_rfl)) (fun _ _ _ h => h) (Or.inl ⟨by rfl, ?_⟩) hHeld ?_ ?_
      rotate_left
      ·rintro w' ⟨s0, s1, s2, s3, s4, s5, s6, s7, s8⟩
       go_simp
       with_reducible rfl
      rotate_left
      ·exact ap_
      refine pu_ HT_ 6 (some 30) ?_
      refine pu_ HT_ 7 (some 31) ?_
      refine take_ (i := 8) (N := some 32) (v := ?_) (a' := ?_) #[true, true, true, true, true, true, true, true, true, true, false, true, false, false, false, false, false, false] rfl rfl (take_ofW HT_.out HW_.out (by kernel_rfl)) (fun _ _ _ h => h) (Or.inl ⟨by rfl, ?_⟩) hHeld ?_ ?_
      rotate_left
      ·rintro w' ⟨s0, s1, s2, s3, s4, s5, s6, s7, s8⟩
       go_simp
       with_reducible rfl
      rotate_left
      ·exact ap_
      refine take_ (i := 10) (N := some 34) (v := ?_) (a' := ?_) #[true, true, true, true, true, true, true, true, true, true, true, true, false, false, false, false, false, false] rfl rfl (take_ofW HT_.out HW_.out (by kernel_rfl)) (fun _ _ _ h => h) (Or.inl ⟨by rfl, ?_⟩) hHeld ?_ ?_
      rotate_left
      ·rintro w' ⟨s0, s1, s2, s3, s4, s5, s6, s7, s8⟩
       go_simp
       with_reducible rfl
      rotate_left
      ·exact ap_
      refine pu_ HT_ 12 (some 36) ?_
      refine pu_ HT_ 13 (some 37) ?_
      refine take_ (i := 14) (N := some 38) (v := ?_) (a' := ?_) #[true, true, true, true, true, true, true, true, true, true, true, true, true, true, true, false, false, false] rfl rfl (take_ofW HT_.out HW_.out (by kernel_rfl)) (fun _ _ _ h => h) (Or.inl ⟨by rfl, ?_⟩) hHeld ?_ ?_
      rotate_left
      ·rintro w' ⟨s0, s1, s2, s3, s4, s5, s6, s7, s8⟩
       go_simp
       with_reducible rfl
      rotate_left
      ·exact ap_
      refine pu_ HT_ 15 (some 39) ?_
      refine pu_ HT_ 16 (some 40) ?_
      refine pu_ HT_ 17 (some 41) ?_
      refine done_ (done_of HT_.out (by kernel_rfl)) ?_
      try go_wp2
      go_meet
      case rel => exact ⟨_, (decide (((rd_T71 l0_0 t459).f2) < (((rd_T71 l0_0 t459).f1).size : Int))), fz_, H', ⟨by have := HJ5.out; have := HJ14.out; first | omega | exact Nat.le_refl _⟩, ⟨bk_ BK456⟩, ⟨bk_ BK457⟩, ⟨bl_2 HB GE456 GE457⟩⟩
     case rest =>
      clear HC17
      try clear c1
      try clear c2
      try clear p2
      try clear p4
      try clear q4
      try clear hx4
      try clear c6
      try clear c7
      try clear c9
      try clear c14
      try clear c14b0
      try clear c14b1
      try clear c16
      try clear c18
      try clear c18b0
      try clear c18b1
      try clear c19
      try clear c19b0
      try clear c20
      try clear c20b0
      try clear hx460_0
      try clear hx460_1
      try clear hx460_2
      try clear hx461_0
      try clear hx461_1
      try clear hx461_2
      try clear p2
      try clear p460
      try clear p461
      try clear q460
      try clear q461
      obtain ⟨kq, x41_16, rfl, HA, HJ16, BK456, BK457, HB⟩ := hcut
      cases kq with
      | zero => exact absurd HA.out (by simp [gafferref02_Swap.j2])
      | succ kj16 =>
       have H := HA.out
       clear HA
       simp only [gafferref02_Swap.j2] at H
       have HC23 := a_ H
       clear H
       go_upto_if 41 with (fail)
       go_cut [8] (fun v8 wc => ∃ (kq : Nat) (x8_22 : Int), v8 = .int .i64 x8_22 ∧ Aside0 (gafferref02_Swap.j3 kq a1 a2 x8_22 t459 l0_0 a0_1 a0_2 = some (r1, r2, r3, r4)) ∧ Aside0 (kq ≤ kj16) ∧ Aside0 (wc.heap[gb456]? = some (.cells #[(.slice A0_0 l0_0.length c0_0), .bool a0_1, .int .i64 a0_2] 24 (0, 0))) ∧ Aside0 (wc.heap[gb457]? = some (.cells #[(.slice none 0 0), .bool false, .int .i64 0] 24 (0, 0))) ∧ Aside0 (Below w.heap.size w wc))
       case first =>
        have H := HC23.out
        clear HC23
        by_cases c24 : x41_16 = true
        ·subst c24
         have H1 : (gafferref02_Swap.j3 kj16 a1 a2 9 t459 l0_0 a0_1 a0_2) = some (r1, r2, r3, r4) := by rw [if_pos rfl] at H; exact H
         clear H
         have H := H1
         clear H1
         have H' := a_ H
         clear H
         go_wp2
         go_meet
         case rel => exact ⟨_, (9), fz_, H', ⟨by have := HJ5.out; have := HJ14.out; have := HJ16.out; first | omega | exact Nat.le_refl _⟩, ⟨bk_ BK456⟩, ⟨bk_ BK457⟩, ⟨bl_2 HB GE456 GE457⟩⟩
        replace c24 := Bool.eq_false_iff.mpr c24
        subst c24
        have H1 : (gafferref02_Swap.j3 kj16 a1 a2 x8_14 t459 l0_0 a0_1 a0_2) = some (r1, r2, r3, r4) := by rw [if_neg (show ¬ (false = true) by decide)] at H; exact H
        clear H
        have H := H1
        clear H1
        have H' := a_ H
        clear H
        go_wp2
        go_meet
        case rel => exact ⟨_, (x8_14), fz_, H', ⟨by have := HJ5.out; have := HJ14.out; have := HJ16.out; first | omega | exact Nat.le_refl _⟩, ⟨bk_ BK456⟩, ⟨bk_ BK457⟩, ⟨bl_2 HB GE456 GE457⟩⟩
       case rest =>
        clear HC23
        try clear c1
        try clear c2
        try clear p2
        try clear p4
        try clear q4
        try clear hx4
        try clear c6
        try clear c7
        try clear c9
        try clear c14
        try clear c14b0
        try clear c14b1
        try clear c16
        try clear c18
        try clear c18b0
        try clear c18b1
        try clear c19
        try clear c19b0
        try clear c20
        try clear c20b0
        try clear c24
        try clear hx460_0
        try clear hx460_1
        try clear hx460_2
        try clear hx461_0
        try clear hx461_1
        try clear hx461_2
        try clear p2
        try clear p4
        try clear p460
        try clear p461
        try clear q4
        try clear q460
        try clear q461
        obtain ⟨kq, x8_22, rfl, HA, HJ22, BK456, BK457, HB⟩ := hcut
        cases kq with
        | zero => exact absurd HA.out (by simp [gafferref02_Swap.j3])
        | succ kj22 =>
         have H := HA.out
         clear HA
         simp only [gafferref02_Swap.j3] at H
         have HC25 := a_ H
         clear H
         go_upto_region 7 with (fail)
         go_cut [48] (fun v48 wc => ∃ (kq : Nat) (x48_24 : Bool), v48 = .bool x48_24 ∧ Aside0 (gafferref02_Swap.j4 kq a1 a2 x8_22 t459 x48_24 l0_0 a0_1 a0_2 = some (r1, r2, r3, r4)) ∧ Aside0 (kq ≤ kj22) ∧ Aside0 (wc.heap[gb456]? = some (.cells #[(.slice A0_0 l0_0.length c0_0), .bool a0_1, .int .i64 a0_2] 24 (0, 0))) ∧ Aside0 (wc.heap[gb457]? = some (.cells #[(.slice none 0 0), .bool false, .int .i64 0] 24 (0, 0))) ∧ Aside0 (Below w.heap.size w wc))
         case first =>
          have H := HC25.out
          clear HC25
          by_cases c26 : x8_22 = 0
          rotate_left
          ·rw [if_neg c26] at H
           have c26b0 : (x8_22 == 0) = false := beq_eq_false_iff_ne.mpr c26
           have c26b1 : (x8_22 != 0) = true := bne_iff_ne.mpr c26
           (first | rw [c26b0] | (simp only [i64_w, i32_w]; rw [c26b0]) | skip)
           have H' := a_ H
           clear H
           go_wp2
           go_meet
           case rel => exact ⟨_, (false), fz_, H', ⟨by have := HJ5.out; have := HJ14.out; have := HJ16.out; have := HJ22.out; first | omega | exact Nat.le_refl _⟩, ⟨bk_ BK456⟩, ⟨bk_ BK457⟩, ⟨bl_2 HB GE456 GE457⟩⟩
          rw [if_pos c26] at H
          have c26b0 : (x8_22 == 0) = true := beq_iff_eq.mpr c26
          have c26b1 : (x8_22 != 0) = false := bne_eq_false_iff_eq.mpr c26
          clear c26
          (first | rw [c26b0] | (simp only [i64_w, i32_w]; rw [c26b0]) | skip)
          obtain ⟨t462, A270, H⟩ := Option.bind_eq_some_iff.mp H
          try dsimp only at H
          have A27 := a_ A270
          clear A270
          have H' := a_ H
          clear H
          go_wp2_with (first | (go_at_call 101; (with_reducible refine (gafferref02_name.calls a2 t462 _ A27.out).mono ?_); rintro e w' ⟨rfl, ⟨nd, rfl⟩⟩))
          go_meet
          case rel => exact ⟨_, (!t462), fz_, H', ⟨by have := HJ5.out; have := HJ14.out; have := HJ16.out; have := HJ22.out; first | omega | exact Nat.le_refl _⟩, ⟨bk_ BK456⟩, ⟨bk_ BK457⟩, ⟨bl_2 HB GE456 GE457⟩⟩
         case rest =>
          clear HC25
          try clear c1
          try clear c2
          try clear p2
          try clear p4
          try clear q4
          try clear hx4
          try clear c6
          try clear c7
          try clear c9
          try clear c14
          try clear c14b0
          try clear c14b1
          try clear c16
          try clear c18
          try clear c18b0
          try clear c18b1
          try clear c19
          try clear c19b0
          try clear c20
          try clear c20b0
          try clear c24
          try clear c26
          try clear c26b0
          try clear c26b1
          try clear hx460_0
          try clear hx460_1
          try clear hx460_2
          try clear hx461_0
          try clear hx461_1
          try clear hx461_2
          try clear p2
          try clear p4
          try clear p460
          try clear p461
          try clear q4
          try clear q460
          try clear q461
          obtain ⟨kq, x48_24, rfl, HA, HJ24, BK456, BK457, HB⟩ := hcut
          cases kq with
          | zero => exact absurd HA.out (by simp [gafferref02_Swap.j4])
          | succ kj24 =>
           have H := HA.out
           clear HA
           simp only [gafferref02_Swap.j4] at H
           have HC28 := a_ H
           clear H
           go_upto_if 48 with (fail)
           go_cut [8] (fun v8 wc => ∃ (kq : Nat) (x8_27 : Int), v8 = .int .i64 x8_27 ∧ Aside0 (gafferref02_Swap.j5 kq a1 a2 x8_27 t459 l0_0 a0_1 a0_2 = some (r1, r2, r3, r4)) ∧ Aside0 (kq ≤ kj24) ∧ Aside0 (wc.heap[gb456]? = some (.cells #[(.slice A0_0 l0_0.length c0_0), .bool a0_1, .int .i64 a0_2] 24 (0, 0))) ∧ Aside0 (wc.heap[gb457]? = some (.cells #[(.slice none 0 0), .bool false, .int .i64 0] 24 (0, 0))) ∧ Aside0 (Below w.heap.size w wc))
           case first =>
            have H := HC28.out
            clear HC28
            by_cases c29 : x48_24 = true
            ·subst c29
             have H1 : (gafferref02_Swap.j5 kj24 a1 a2 5 t459 l0_0 a0_1 a0_2) = some (r1, r2, r3, r4) := by rw [if_pos rfl] at H; exact H
             clear H
             have H := H1
             clear H1
             have H' := a_ H
             clear H
             go_wp2
             go_meet
             case rel => exact ⟨_, (5), fz_, H', ⟨by have := HJ5.out; have := HJ14.out; have := HJ16.out; have := HJ22.out; have := HJ24.out; first | omega | exact Nat.le_refl _⟩, ⟨bk_ BK456⟩, ⟨bk_ BK457⟩, ⟨bl_2 HB GE456 GE457⟩⟩
            replace c29 := Bool.eq_false_iff.mpr c29
            subst c29
            have H1 : (gafferref02_Swap.j5 kj24 a1 a2 x8_22 t459 l0_0 a0_1 a0_2) = some (r1, r2, r3, r4) := by rw [if_neg (show ¬ (false = true) by decide)] at H; exact H
            clear H
            have H := H1
            clear H1
            have H' := a_ H
            clear H
            go_wp2
            go_meet
            case rel => exact ⟨_, (x8_22), fz_, H', ⟨by have := HJ5.out; have := HJ14.out; have := HJ16.out; have := HJ22.out; have := HJ24.out; first | omega | exact Nat.le_refl _⟩, ⟨bk_ BK456⟩, ⟨bk_ BK457⟩, ⟨bl_2 HB GE456 GE457⟩⟩
           case rest =>
            clear HC28
            try clear c1
            try clear c2
            try clear p2
            try clear p4
            try clear q4
            try clear hx4
            try clear c6
            try clear c7
            try clear c9
            try clear c14
            try clear c14b0
            try clear c14b1
            try clear c16
            try clear c18
            try clear c18b0
            try clear c18b1
            try clear c19
            try clear c19b0
            try clear c20
            try clear c20b0
            try clear c24
            try clear c26
            try clear c26b0
            try clear c26b1
            try clear c29
            try clear hx460_0
            try clear hx460_1
            try clear hx460_2
            try clear hx461_0
            try clear hx461_1
            try clear hx461_2
            try clear p2
            try clear p4
            try clear p460
            try clear p461
            try clear q4
            try clear q460
            try clear q461
            obtain ⟨kq, x8_27, rfl, HA, HJ27, BK456, BK457, HB⟩ := hcut
            cases kq with
            | zero => exact absurd HA.out (by simp [gafferref02_Swap.j5])
            | succ kj27 =>
             have H := HA.out
             clear HA
             simp only [gafferref02_Swap.j5] at H
             by_cases c30 : x8_27 = 0
             rotate_left
             ·rw [if_neg c30] at H
              have c30b0 : (x8_27 == 0) = false := beq_eq_false_iff_ne.mpr c30
              have c30b1 : (x8_27 != 0) = true := bne_iff_ne.mpr c30
              obtain ⟨⟨t463, t466, t467, t468⟩, A730, H⟩ := Option.bind_eq_some_iff.mp H
              try dsimp only at H
              have A73 := a_ A730
              clear A730
              simp only [Option.some.injEq, Prod.mk.injEq] at H
              obtain ⟨rfl, rfl, rfl, rfl⟩ := H
              have hnb74 := NB456_457.out
              have hnc74 := NB457_456.out
              obtain ⟨hcz75_0, hcz75_1, hcz75_2, hfz75_0, hfz75_1, hfz75_2⟩ := c3_ BK456
              go_wp2_with (first | ((with_reducible refine gk_ 98 ?_); refine gl_ (some 53) Try.func98 #[.agg #[.slice A0_0 l0_0.length c0_0, .bool a0_1, .int .i64 a0_2], .int .i64 x8_27] ?_; (with_reducible refine (gafferref02_bad.calls _ _ l0_0 a0_1 a0_2 x8_27 t463 t466 t467 t468 _ ?side1 ?side2 A73.out).mono ?_); (case side1 => exact cl_ (Kd.C_below HR0_0.out HB.out)); (case side2 => exact HC0_0.out); rintro e w76 ⟨v464, rfl, ho0, hb⟩; refine ⟨_, rfl, ?_⟩; have HO465 := a_ (Kd.R_lower ho0 (below_size (bl_2 HB GE456 GE457))); replace BK456 := bB_ BK456 hb; replace BK457 := bB_ BK457 hb; replace HB := hB_ (bl_2 HB GE456 GE457) hb; (try clear hb); (try clear ho0); obtain ⟨Ao77, co77, eo77⟩ := Kd.R_slice HO465.out; subst eo77; obtain ⟨hcz78_0, hcz78_1, hcz78_2, hfz78_0, hfz78_1, hfz78_2⟩ := c3_ BK457))
              refine bodyPost_ret (results_ct rfl _ _ gb457 24 #[.slice Ao77 t463.length co77, .bool t466, .int .i64 t467] (0, 0) _ rfl (bp_0 BK457) Try.underlying24 rfl (by kernel_rfl)) rfl ?_
              exact ⟨_, fz_, by refine rq_ ?_; exact Kd.R_mono (Kd.R_far (p := ⟨gb457, 2, none⟩) (Kd.R_far (p := ⟨gb457, 1, none⟩) (Kd.R_far (p := ⟨gb457, 0, none⟩) (Kd.R_types HO465.out BK457.out (by decide)) (fun _ hk => hk.2) (.slice Ao77 t463.length co77)) (fun _ hk => hk.2) (.bool t466)) (fun _ hk => hk.2) (.int .i64 t467)) (fun _ hk => trivial), bl_2 HB GE456 GE457⟩


             rw [if_pos c30] at H
             have c30b0 : (x8_27 == 0) = true := beq_iff_eq.mpr c30
             have c30b1 : (x8_27 != 0) = false := bne_eq_false_iff_eq.mpr c30
             clear c30
             obtain ⟨⟨t469, t472, t473⟩, A310, H⟩ := Option.bind_eq_some_iff.mp H
             try dsimp only at H
             have A31 := a_ A310
             clear A310
             obtain ⟨⟨t474, t477, t478, t479⟩, A320, H⟩ := Option.bind_eq_some_iff.mp H
             try dsimp only at H
             have A32 := a_ A320
             clear A320
             by_cases c33 : t479 = true
             rotate_left
             ·replace c33 := Bool.eq_false_iff.mpr c33
              subst c33
              have H1 : (some (t474, t477, t478, 8)) = some (r1, r2, r3, r4) := by rw [if_neg (show ¬ (false = true) by decide)] at H; exact H
              clear H
              have H := H1
              clear H1
              simp only [Option.some.injEq, Prod.mk.injEq] at H
              obtain ⟨rfl, rfl, rfl, rfl⟩ := H
              have hnb62 := NB456_457.out
              have hnc62 := NB457_456.out
              obtain ⟨hcz63_0, hcz63_1, hcz63_2, hfz63_0, hfz63_1, hfz63_2⟩ := c3_ BK456
              go_wp2_with (first | ((with_reducible refine gk_ 14 ?_); refine gl_ (some 58) Try.func14 #[.agg #[.slice A0_0 l0_0.length c0_0, .bool a0_1, .int .i64 a0_2]] ?_; (with_reducible refine (gafferref02_Copy.calls _ _ l0_0 a0_1 a0_2 t469 t472 t473 _ ?side1 ?side2 A31.out).mono ?_); (case side1 => exact cl_ (Kd.C_below HR0_0.out HB.out)); (case side2 => exact HC0_0.out); rintro e w64 ⟨v470, rfl, ho0, hb⟩; refine ⟨_, rfl, ?_⟩; have HO471 := a_ (Kd.R_lower ho0 (below_size (bl_2 HB GE456 GE457))); replace BK456 := bB_ BK456 hb; replace BK457 := bB_ BK457 hb; replace HB := hB_ (bl_2 HB GE456 GE457) hb; (try clear hb); (try clear ho0); obtain ⟨Ao65, co65, eo65⟩ := Kd.R_slice HO471.out; subst eo65) | ((with_reducible refine gk_ 99 ?_); refine gl_ (some 59) Try.func99 #[.agg #[.slice Ao65 t469.length co65, .bool t472, .int .i64 t473]] ?_; (with_reducible refine (gafferref02_burnt.calls (fun k_ => some k_ = (.slice Ao65 t469.length co65 : Value).ownBlock) (.slice Ao65 t469.length co65) t469 t472 t473 t474 t477 t478 false w _ ?side1 ?side2 A32.out).mono ?_); (case side1 => repeat (first | (with_reducible first | exact HB.out | apply below_alloc | apply pw_below_drewN | apply below_drew1 | refine below_set ?_ GE456.out | refine below_set ?_ GE457.out) | exact HB.out)); (case side2 => exact Kd.R_tight rfl HO471.out); rintro e w66 ⟨v475, rfl, ho0, hb, hkp⟩; refine ⟨_, rfl, ?_⟩; replace BK456 := a_ (blk_kept (bk_ BK456) hkp (fun hs_ => (fun e_ => (Kd.R_ne HO471.out BK456.out (by decide)) e_) hs_)); replace BK457 := a_ (blk_kept (bk_ BK457) hkp (fun hs_ => (fun e_ => (Kd.R_ne HO471.out BK457.out (by decide)) e_) hs_)); have HO476 := a_ (Kd.R_mono (ok' := fun k_ => True) ho0 (fun k_ hk_ => trivial)); replace HB := a_ (hb); clear HO471; (try clear hb); (try clear hkp); (try clear ho0)) | ((with_reducible refine gd_ 10 ?_); (try (refine gate_guard (by rfl) ?_; dsimp only)); refine bx_ 10 #[.slice none 0 0, .bool false, .int .i64 0] 24 ?_; intro gb480 hg w67 hbox hb; replace HO476 := a_ (Kd.R_below (by refine rq_ ?_; exact HO476.out) hb); have BK480 := a_ (hbox); have GE480 := a_ (bs_2 hg HB GE456 GE457); replace HB := hB_ (bl_2 HB GE456 GE457) hb; have NB456_480 := nB_ hg BK456; have NB480_456 := nC_ hg BK456; replace BK456 := bB_ BK456 hb; have NB457_480 := nB_ hg BK457; have NB480_457 := nC_ hg BK457; replace BK457 := bB_ BK457 hb; clear hb hbox hg; obtain ⟨Ao68, co68, eo68⟩ := Kd.R_slice HO476.out; subst eo68; have hnb69 := NB480_456.out; have hnc69 := NB456_480.out; have hnb70 := NB480_457.out; have hnc70 := NB457_480.out; obtain ⟨hcz71_0, hcz71_1, hcz71_2, hfz71_0, hfz71_1, hfz71_2⟩ := c3_ BK480; obtain ⟨hcz72_0, hcz72_1, hcz72_2, hfz72_0, hfz72_1, hfz72_2⟩ := c3_ BK457))
              refine bodyPost_ret (results_ct rfl _ _ gb457 24 #[.slice Ao68 t474.length co68, .bool t477, .int .i64 t478] (0, 0) _ rfl (bp_1 BK457 NB457_480) Try.underlying24 rfl (by kernel_rfl)) rfl ?_
              exact ⟨_, fz_, by refine rq_ ?_; exact Kd.R_mono (Kd.R_far (p := ⟨gb457, 2, none⟩) (Kd.R_far (p := ⟨gb457, 1, none⟩) (Kd.R_far (p := ⟨gb457, 0, none⟩) (Kd.R_far (p := ⟨gb480, 2, none⟩) (Kd.R_far (p := ⟨gb480, 1, none⟩) (Kd.R_far (p := ⟨gb480, 0, none⟩) (Kd.R_types (Kd.R_types HO476.out BK480.out (by decide)) BK457.out (by decide)) (fun _ hk => hk.1.2) (.slice Ao68 t474.length co68)) (fun _ hk => hk.1.2) (.bool t477)) (fun _ hk => hk.1.2) (.int .i64 t478)) (fun _ hk => hk.2) (.slice Ao68 t474.length co68)) (fun _ hk => hk.2) (.bool t477)) (fun _ hk => hk.2) (.int .i64 t478)) (fun _ hk => trivial), bl_3 HB GE456 GE457 GE480⟩
             subst c33
             have H1 : (if 0 ≤ t459 then (if t459 < (t474.length : Int) then ((gafferref02_without.f kj27 t474 t477 t478 a1).bind fun bt483 => ((gafferref02_with.f kj27 bt483.1 bt483.2.1 bt483.2.2 a2 ((rd_T71 t474 t459).f1) ((rd_T71 t474 t459).f2)).bind fun bt488 => (some (bt488.1, bt488.2.1, bt488.2.2, 0)))) else (none)) else (none)) = some (r1, r2, r3, r4) := by rw [if_pos rfl] at H; exact H
             clear H
             have H := H1
             clear H1
             by_cases c34 : 0 ≤ t459
             rotate_left
             ·rw [if_neg c34] at H
              exact absurd H (by simp)
             rw [if_pos c34] at H
             have c34b0 : decide (0 ≤ t459) = true := decide_eq_true c34
             clear c34
             by_cases c35 : t459 < (t474.length : Int)
             rotate_left
             ·rw [if_neg c35] at H
              exact absurd H (by simp)
             rw [if_pos c35] at H
             have c35b0 : decide (t459 < (t474.length : Int)) = true := decide_eq_true c35
             clear c35
             obtain ⟨⟨t483, t486, t487⟩, A360, H⟩ := Option.bind_eq_some_iff.mp H
             try dsimp only at H
             have A36 := a_ A360
             clear A360
             obtain ⟨⟨t488, t491, t492⟩, A370, H⟩ := Option.bind_eq_some_iff.mp H
             try dsimp only at H
             have A37 := a_ A370
             clear A370
             simp only [Option.some.injEq, Prod.mk.injEq] at H
             obtain ⟨rfl, rfl, rfl, rfl⟩ := H
             have hnb38 := NB456_457.out
             have hnc38 := NB457_456.out
             obtain ⟨hcz39_0, hcz39_1, hcz39_2, hfz39_0, hfz39_1, hfz39_2⟩ := c3_ BK456
             try go_wp2_with (first | ((with_reducible refine gk_ 14 ?_); refine gl_ (some 58) Try.func14 #[.agg #[.slice A0_0 l0_0.length c0_0, .bool a0_1, .int .i64 a0_2]] ?_; (with_reducible refine (gafferref02_Copy.calls _ _ l0_0 a0_1 a0_2 t469 t472 t473 _ ?side1 ?side2 A31.out).mono ?_); (case side1 => exact cl_ (Kd.C_below HR0_0.out HB.out)); (case side2 => exact HC0_0.out); rintro e w40 ⟨v470, rfl, ho0, hb⟩; refine ⟨_, rfl, ?_⟩; have HO471 := a_ (Kd.R_lower ho0 (below_size (bl_2 HB GE456 GE457))); replace BK456 := bB_ BK456 hb; replace BK457 := bB_ BK457 hb; replace HB := hB_ (bl_2 HB GE456 GE457) hb; (try clear hb); (try clear ho0); obtain ⟨Ao41, co41, eo41⟩ := Kd.R_slice HO471.out; subst eo41) | ((with_reducible refine gk_ 99 ?_); refine gl_ (some 59) Try.func99 #[.agg #[.slice Ao41 t469.length co41, .bool t472, .int .i64 t473]] ?_; (with_reducible refine (gafferref02_burnt.calls (fun k_ => some k_ = (.slice Ao41 t469.length co41 : Value).ownBlock) (.slice Ao41 t469.length co41) t469 t472 t473 t474 t477 t478 true w _ ?side1 ?side2 A32.out).mono ?_); (case side1 => repeat (first | (with_reducible first | exact HB.out | apply below_alloc | apply pw_below_drewN | apply below_drew1 | refine below_set ?_ GE456.out | refine below_set ?_ GE457.out) | exact HB.out)); (case side2 => exact Kd.R_tight rfl HO471.out); rintro e w42 ⟨v475, rfl, ho0, hb, hkp⟩; refine ⟨_, rfl, ?_⟩; replace BK456 := a_ (blk_kept (bk_ BK456) hkp (fun hs_ => (fun e_ => (Kd.R_ne HO471.out BK456.out (by decide)) e_) hs_)); replace BK457 := a_ (blk_kept (bk_ BK457) hkp (fun hs_ => (fun e_ => (Kd.R_ne HO471.out BK457.out (by decide)) e_) hs_)); have HO476 := a_ (Kd.R_mono (ok' := fun k_ => True) ho0 (fun k_ hk_ => trivial)); replace HB := a_ (hb); clear HO471; (try clear hb); (try clear hkp); (try clear ho0)) | ((with_reducible refine gd_ 10 ?_); (try (refine gate_guard (by rfl) ?_; dsimp only)); refine bx_ 10 #[.slice none 0 0, .bool false, .int .i64 0] 24 ?_; intro gb480 hg w43 hbox hb; replace HO476 := a_ (Kd.R_below (by refine rq_ ?_; exact HO476.out) hb); have BK480 := a_ (hbox); have GE480 := a_ (bs_2 hg HB GE456 GE457); replace HB := hB_ (bl_2 HB GE456 GE457) hb; have NB456_480 := nB_ hg BK456; have NB480_456 := nC_ hg BK456; replace BK456 := bB_ BK456 hb; have NB457_480 := nB_ hg BK457; have NB480_457 := nC_ hg BK457; replace BK457 := bB_ BK457 hb; clear hb hbox hg; obtain ⟨Ao44, co44, eo44⟩ := Kd.R_slice HO476.out; subst eo44; have hnb45 := NB480_456.out; have hnc45 := NB456_480.out; have hnb46 := NB480_457.out; have hnc46 := NB457_480.out; obtain ⟨hcz47_0, hcz47_1, hcz47_2, hfz47_0, hfz47_1, hfz47_2⟩ := c3_ BK480; have p481 : 0 ≤ (t459 : Int) := od_; have q481 : t459 < (t474.length : Int) := od_; obtain ⟨ad481, e481, hx481_0, hx481_1, hx481_2⟩ := at_T71 (Kd.R_reads' HO476.out).2.2 t459 p481 q481; cases e481; have hn481_0 : ad481.block ≠ gb480 := Kd.own_blk (Kd.R_ne HO476.out BK480.out (by decide)); have hn481_1 : ad481.block ≠ gb480 := Kd.own_blk (Kd.R_ne HO476.out BK480.out (by decide)); have hn481_2 : ad481.block ≠ gb480 := Kd.own_blk (Kd.R_ne HO476.out BK480.out (by decide)); replace hx481_0 := (cf_ (p := ⟨gb480, 0, none⟩) hn481_0 (.slice (some ad481) t474.length co44)).trans hx481_0; replace hx481_1 := (cf_ (p := ⟨gb480, 0, none⟩) hn481_0 (.slice (some ad481) t474.length co44)).trans hx481_1; replace hx481_2 := (cf_ (p := ⟨gb480, 0, none⟩) hn481_0 (.slice (some ad481) t474.length co44)).trans hx481_2; replace hx481_0 := (cf_ (p := ⟨gb480, 1, none⟩) hn481_1 (.bool t477)).trans hx481_0; replace hx481_1 := (cf_ (p := ⟨gb480, 1, none⟩) hn481_1 (.bool t477)).trans hx481_1; replace hx481_2 := (cf_ (p := ⟨gb480, 1, none⟩) hn481_1 (.bool t477)).trans hx481_2; replace hx481_0 := (cf_ (p := ⟨gb480, 2, none⟩) hn481_2 (.int .i64 t478)).trans hx481_0; replace hx481_1 := (cf_ (p := ⟨gb480, 2, none⟩) hn481_2 (.int .i64 t478)).trans hx481_1; replace hx481_2 := (cf_ (p := ⟨gb480, 2, none⟩) hn481_2 (.int .i64 t478)).trans hx481_2; clear hn481_0; clear hn481_1; clear hn481_2; replace p481 := eq_true p481; replace q481 := eq_true q481) | ((with_reducible refine gd_ 12 ?_); (try (refine gate_guard (by rfl) ?_; dsimp only)); refine bx_ 12 #[.string (⟨#[]⟩ : ByteArray), .string (⟨#[]⟩ : ByteArray), .int .i64 0] 71 ?_; intro gb482 hg w48 hbox hb; replace HO476 := a_ (Kd.R_below (Kd.R_elderB (by refine rq_ ?_; exact (Kd.R_mono (Kd.R_far (p := ⟨gb480, 2, none⟩) (Kd.R_far (p := ⟨gb480, 1, none⟩) (Kd.R_far (p := ⟨gb480, 0, none⟩) (Kd.R_types HO476.out BK480.out (by decide)) (fun _ hk => hk.2) (.slice (some ad481) t474.length co44)) (fun _ hk => hk.2) (.bool t477)) (fun _ hk => hk.2) (.int .i64 t478)) (fun _ h_ => h_.1))) gb482 (Nat.le_of_eq hg.symm)) hb); have BK482 := a_ (hbox); have GE482 := a_ (bs_3 hg HB GE456 GE457 GE480); replace HB := hB_ (bl_3 HB GE456 GE457 GE480) hb; have NB456_482 := a_ ((by rw [hg]; exact Nat.ne_of_lt (blk_lt (g := gb456) (o := .cells #[.slice A0_0 l0_0.length c0_0, .bool a0_1, .int .i64 a0_2] 24 (0, 0)) (bp_1 BK456 NB456_480)) : gb456 ≠ gb482)); have NB482_456 := a_ ((by rw [hg]; exact Nat.ne_of_gt (blk_lt (g := gb456) (o := .cells #[.slice A0_0 l0_0.length c0_0, .bool a0_1, .int .i64 a0_2] 24 (0, 0)) (bp_1 BK456 NB456_480)) : gb482 ≠ gb456)); replace BK456 := a_ (blk_below (g := gb456) (o := .cells #[.slice A0_0 l0_0.length c0_0, .bool a0_1, .int .i64 a0_2] 24 (0, 0)) (bp_1 BK456 NB456_480) hb); have NB457_482 := a_ ((by rw [hg]; exact Nat.ne_of_lt (blk_lt (g := gb457) (o := .cells #[.slice none 0 0, .bool false, .int .i64 0] 24 (0, 0)) (bp_1 BK457 NB457_480)) : gb457 ≠ gb482)); have NB482_457 := a_ ((by rw [hg]; exact Nat.ne_of_gt (blk_lt (g := gb457) (o := .cells #[.slice none 0 0, .bool false, .int .i64 0] 24 (0, 0)) (bp_1 BK457 NB457_480)) : gb482 ≠ gb457)); replace BK457 := a_ (blk_below (g := gb457) (o := .cells #[.slice none 0 0, .bool false, .int .i64 0] 24 (0, 0)) (bp_1 BK457 NB457_480) hb); have NB480_482 := a_ ((by rw [hg]; exact Nat.ne_of_lt (blk_lt (g := gb480) (o := .cells #[.slice (some ad481) t474.length co44, .bool t477, .int .i64 t478] 24 (0, 0)) (bp_0 BK480)) : gb480 ≠ gb482)); have NB482_480 := a_ ((by rw [hg]; exact Nat.ne_of_gt (blk_lt (g := gb480) (o := .cells #[.slice (some ad481) t474.length co44, .bool t477, .int .i64 t478] 24 (0, 0)) (bp_0 BK480)) : gb482 ≠ gb480)); replace BK480 := a_ (blk_below (g := gb480) (o := .cells #[.slice (some ad481) t474.length co44, .bool t477, .int .i64 t478] 24 (0, 0)) (bp_0 BK480) hb); clear hb hbox hg; have hnb49 := NB482_456.out; have hnc49 := NB456_482.out; have hnb50 := NB482_457.out; have hnc50 := NB457_482.out; have hnb51 := NB482_480.out; have hnc51 := NB480_482.out; obtain ⟨hcz52_0, hcz52_1, hcz52_2, hfz52_0, hfz52_1, hfz52_2⟩ := c3_ BK482))
             have n0_ : Aside0 (Kd.R k71 71 ((((w48.setCell ⟨gb482, 0, none⟩ (.string ((rd_T71 t474 t459).f0))).setCell ⟨gb482, 1, none⟩ (.string ((rd_T71 t474 t459).f1))).setCell ⟨gb482, 2, none⟩ (.int .i64 ((rd_T71 t474 t459).f2))).setCell ⟨gb482, 0, none⟩ (.string a2)) w.heap.size (fun k_ => k_ ≠ gb482) (.slice (some ad481) t474.length co44) t474) := ⟨by refine rq_ ?_; exact Kd.R_mono (Kd.R_far (p := ⟨gb482, 0, none⟩) (Kd.R_far (p := ⟨gb482, 2, none⟩) (Kd.R_far (p := ⟨gb482, 1, none⟩) (Kd.R_far (p := ⟨gb482, 0, none⟩) (Kd.R_mono HO476.out (fun k_ hk => (⟨hk, hk.2⟩ : _ ∧ k_ ≠ gb482))) (fun _ hk => hk.2) (.string ((rd_T71 t474 t459).f0))) (fun _ hk => hk.2) (.string ((rd_T71 t474 t459).f1))) (fun _ hk => hk.2) (.int .i64 ((rd_T71 t474 t459).f2))) (fun _ hk => hk.2) (.string a2)) (fun _ hk => hk.1.2)⟩
             have n1_ : Aside0 (((((w48.setCell ⟨gb482, 0, none⟩ (.string ((rd_T71 t474 t459).f0))).setCell ⟨gb482, 1, none⟩ (.string ((rd_T71 t474 t459).f1))).setCell ⟨gb482, 2, none⟩ (.int .i64 ((rd_T71 t474 t459).f2))).setCell ⟨gb482, 0, none⟩ (.string a2)).heap[gb456]? = some (.cells #[.slice A0_0 l0_0.length c0_0, .bool a0_1, .int .i64 a0_2] 24 (0, 0))) := ⟨by refine bq_ ?_; refine blk_far ?_ NB456_482.out _; refine bq_ ?_; refine blk_far ?_ NB456_482.out _; refine bq_ ?_; refine blk_far ?_ NB456_482.out _; refine bq_ ?_; refine blk_far ?_ NB456_482.out _; refine bq_ ?_; exact BK456.out⟩
             have n2_ : Aside0 (((((w48.setCell ⟨gb482, 0, none⟩ (.string ((rd_T71 t474 t459).f0))).setCell ⟨gb482, 1, none⟩ (.string ((rd_T71 t474 t459).f1))).setCell ⟨gb482, 2, none⟩ (.int .i64 ((rd_T71 t474 t459).f2))).setCell ⟨gb482, 0, none⟩ (.string a2)).heap[gb457]? = some (.cells #[.slice none 0 0, .bool false, .int .i64 0] 24 (0, 0))) := ⟨by refine bq_ ?_; refine blk_far ?_ NB457_482.out _; refine bq_ ?_; refine blk_far ?_ NB457_482.out _; refine bq_ ?_; refine blk_far ?_ NB457_482.out _; refine bq_ ?_; refine blk_far ?_ NB457_482.out _; refine bq_ ?_; exact BK457.out⟩
             have n3_ : Aside0 (((((w48.setCell ⟨gb482, 0, none⟩ (.string ((rd_T71 t474 t459).f0))).setCell ⟨gb482, 1, none⟩ (.string ((rd_T71 t474 t459).f1))).setCell ⟨gb482, 2, none⟩ (.int .i64 ((rd_T71 t474 t459).f2))).setCell ⟨gb482, 0, none⟩ (.string a2)).heap[gb480]? = some (.cells #[.slice (some ad481) t474.length co44, .bool t477, .int .i64 t478] 24 (0, 0))) := ⟨by refine bq_ ?_; refine blk_far ?_ NB480_482.out _; refine bq_ ?_; refine blk_far ?_ NB480_482.out _; refine bq_ ?_; refine blk_far ?_ NB480_482.out _; refine bq_ ?_; refine blk_far ?_ NB480_482.out _; refine bq_ ?_; exact BK480.out⟩
             have n4_ : Aside0 (((((w48.setCell ⟨gb482, 0, none⟩ (.string ((rd_T71 t474 t459).f0))).setCell ⟨gb482, 1, none⟩ (.string ((rd_T71 t474 t459).f1))).setCell ⟨gb482, 2, none⟩ (.int .i64 ((rd_T71 t474 t459).f2))).setCell ⟨gb482, 0, none⟩ (.string a2)).heap[gb482]? = some (.cells #[.string a2, .string ((rd_T71 t474 t459).f1), .int .i64 ((rd_T71 t474 t459).f2)] 71 (0, 0))) := ⟨by refine bq_ ?_; refine blk_put (cs := #[.string ((rd_T71 t474 t459).f0), .string ((rd_T71 t474 t459).f1), .int .i64 ((rd_T71 t474 t459).f2)]) ?_ 0 _ rfl; refine bq_ ?_; refine blk_put (cs := #[.string ((rd_T71 t474 t459).f0), .string ((rd_T71 t474 t459).f1), .int .i64 0]) ?_ 2 _ rfl; refine bq_ ?_; refine blk_put (cs := #[.string ((rd_T71 t474 t459).f0), .string (⟨#[]⟩ : ByteArray), .int .i64 0]) ?_ 1 _ rfl; refine bq_ ?_; refine blk_put (cs := #[.string (⟨#[]⟩ : ByteArray), .string (⟨#[]⟩ : ByteArray), .int .i64 0]) ?_ 0 _ rfl; refine bq_ ?_; exact BK482.out⟩
             have n5_ : Aside0 (Below w.heap.size w ((((w48.setCell ⟨gb482, 0, none⟩ (.string ((rd_T71 t474 t459).f0))).setCell ⟨gb482, 1, none⟩ (.string ((rd_T71 t474 t459).f1))).setCell ⟨gb482, 2, none⟩ (.int .i64 ((rd_T71 t474 t459).f2))).setCell ⟨gb482, 0, none⟩ (.string a2))) := ⟨bl_4 HB GE456 GE457 GE480 GE482⟩
             (try clear HO476)
             (try clear BK456)
             (try clear BK457)
             (try clear BK480)
             (try clear BK482)
             (try clear HB)
             generalize ((((w48.setCell ⟨gb482, 0, none⟩ (.string ((rd_T71 t474 t459).f0))).setCell ⟨gb482, 1, none⟩ (.string ((rd_T71 t474 t459).f1))).setCell ⟨gb482, 2, none⟩ (.int .i64 ((rd_T71 t474 t459).f2))).setCell ⟨gb482, 0, none⟩ (.string a2)) = w53 at n0_ n1_ n2_ n3_ n4_ n5_ ⊢
             have HO476 := n0_
             have BK456 := n1_
             have BK457 := n2_
             have BK480 := n3_
             have BK482 := n4_
             have HB := n5_
             clear n0_ n1_ n2_ n3_ n4_ n5_
             have n0_ := a_ (Kd.R_drew HO476.out)
             have n1_ := a_ (blk_drew BK456.out)
             have n2_ := a_ (blk_drew BK457.out)
             have n3_ := a_ (blk_drew BK480.out)
             have n4_ := a_ (blk_drew BK482.out)
             have n5_ := a_ (below_drew1 HB.out)
             clear HO476
             clear BK456
             clear BK457
             clear BK480
             clear BK482
             clear HB
             have HO476 := n0_
             have BK456 := n1_
             have BK457 := n2_
             have BK480 := n3_
             have BK482 := n4_
             have HB := n5_
             clear n0_ n1_ n2_ n3_ n4_ n5_
             refine start_ (n := 7) (S := fun w' => w'.cell? ⟨gb480, 0, none⟩ = some (.slice (some ad481) t474.length co44) ∧ w'.cell? ⟨gb480, 1, none⟩ = some (.bool t477) ∧ w'.cell? ⟨gb480, 2, none⟩ = some (.int .i64 t478) ∧ w'.cell? ⟨gb482, 0, none⟩ = some (.string a2) ∧ w'.cell? ⟨gb482, 1, none⟩ = some (.string ((rd_T71 t474 t459).f1)) ∧ w'.cell? ⟨gb482, 2, none⟩ = some (.int .i64 ((rd_T71 t474 t459).f2))) (ds := []) #[false, false, false, false, false, false, false] (by kernel_rfl) rfl rfl ⟨(blk_cell BK480.out 0).trans rfl, (blk_cell BK480.out 1).trans rfl, (blk_cell BK480.out 2).trans rfl, (blk_cell BK482.out 0).trans rfl, (blk_cell BK482.out 1).trans rfl, (blk_cell BK482.out 2).trans rfl⟩ (fun hHeld => ?_)
             generalize w53.drew = w54 at HO476 BK456 BK457 BK480 BK482 HB hHeld ⊢
             refine pure_ (i := 1) (N := some 73) (v := ?_) (a' := ?_) #[false, true, false, false, false, false, false] rfl rfl (by kernel_rfl) (fun _ _ _ h => h) (Or.inl ⟨by rfl, ?_⟩) ?_ ?_
             rotate_left
             ·intro w'
              go_simp
              with_reducible rfl
             rotate_left
             ·exact ap_
             refine take_ (i := 0) (N := some 72) (v := ?_) (a' := ?_) #[true, true, false, false, false, false, false] rfl rfl (by kernel_rfl) (fun _ _ _ h => h) (Or.inl ⟨by rfl, ?_⟩) hHeld ?_ ?_
             rotate_left
             ·rintro w' ⟨s0, s1, s2, s3, s4, s5⟩
              go_simp
              with_reducible rfl
             rotate_left
             ·exact ap_
             refine take_ (i := 3) (N := some 75) (v := ?_) (a' := ?_) #[true, true, false, true, false, false, false] rfl rfl (by kernel_rfl) (fun _ _ _ h => h) (Or.inl ⟨by rfl, ?_⟩) hHeld ?_ ?_
             rotate_left
             ·rintro w' ⟨s0, s1, s2, s3, s4, s5⟩
              go_simp
              with_reducible rfl
             rotate_left
             ·exact ap_
             refine one_ (i := 2) (N := some 74) #[true, true, true, true, false, false, false] rfl rfl (by kernel_rfl) (by decide) (fun K hK => ?_)
             refine goes_ Try.func100 (by kernel_rfl) rfl #[.agg #[.slice (some ad481) t474.length co44, .bool t477, .int .i64 t478], .string a1] (by rfl) rfl rfl (ar_) ?_
             with_reducible refine (gafferref02_without.calls kj27 _ _ t474 t477 t478 a1 t483 t486 t487 _ ?side1 ?side2 A36.out).mono ?_
             (case side1 => exact cl_ ((Kd.R_reads' HO476.out).2.2))
             (case side2 => exact (Kd.R_reads' HO476.out).2.1)
             rintro e w55 ⟨v484, rfl, ho0, hb⟩
             refine ⟨_, rfl, ?_⟩
             have n0_ := a_ (Kd.R_elder' (by refine rq_ ?_; exact HO476.out) (Kd.R_base ho0) hb)
             have n1_ := a_ (Kd.R_lower (Kd.R_newB (Kd.R_new' ho0 (Kd.R_lt (by refine rq_ ?_; exact HO476.out))) (g := gb482) (o := .cells #[.string a2, .string ((rd_T71 t474 t459).f1), .int .i64 ((rd_T71 t474 t459).f2)] 71 (0, 0)) (bk_ BK482)) (below_size (bl_4 HB GE456 GE457 GE480 GE482)))
             have n2_ := bB_ BK456 hb
             have n3_ := bB_ BK457 hb
             have n4_ := bB_ BK480 hb
             have n5_ := bB_ BK482 hb
             have n6_ := hB_ (bl_4 HB GE456 GE457 GE480 GE482) hb
             clear HO476
             clear BK456
             clear BK457
             clear BK480
             clear BK482
             clear HB
             have HO476 := n0_
             have HO485 := n1_
             have BK456 := n2_
             have BK457 := n3_
             have BK480 := n4_
             have BK482 := n5_
             have HB := n6_
             clear n0_ n1_ n2_ n3_ n4_ n5_ n6_
             (try clear hb)
             (try clear hb2)
             (try clear hk)
             (try clear hi)
             (try clear ho0)
             obtain ⟨Ao56, co56, eo56⟩ := Kd.R_slice HO485.out
             (first | subst eo56 | (injection eo56 with f1_ f2_ f3_; have f4_ := f1_.symm; have f5_ := f3_.symm; clear f1_ f2_ f3_; subst f4_; subst f5_))
             refine hK.out _ _ ⟨(blk_cell BK480.out 0).trans rfl, (blk_cell BK480.out 1).trans rfl, (blk_cell BK480.out 2).trans rfl, (blk_cell BK482.out 0).trans rfl, (blk_cell BK482.out 1).trans rfl, (blk_cell BK482.out 2).trans rfl⟩ (fun hHeld => ?_)
             clear hK K
             refine norm_ (a' := ?_) ?_ ?_
             rotate_left
             ·show Act.put _ (some 74) _ = _
              simp only [Act.put, List.setIfInBounds_toArray, List.set_cons_zero, List.set_cons_succ, i64_w, i32_w]
              rfl
             refine one_ (i := 4) (N := some 76) #[true, true, true, true, true, false, false] rfl rfl (by kernel_rfl) (by decide) (fun K hK => ?_)
             refine goes_ Try.func102 (by kernel_rfl) rfl #[.agg #[.slice Ao56 t483.length co56, .bool t486, .int .i64 t487], .agg #[.string a2, .string ((rd_T71 t474 t459).f1), .int .i64 ((rd_T71 t474 t459).f2)]] (by rfl) rfl rfl (ar_) ?_
             with_reducible refine (gafferref02_with.calls kj27 _ _ t483 t486 t487 a2 ((rd_T71 t474 t459).f1) ((rd_T71 t474 t459).f2) t488 t491 t492 _ ?side1 ?side2 A37.out).mono ?_
             (case side1 => exact cl_ ((Kd.R_reads' HO485.out).2.2))
             (case side2 => exact (Kd.R_reads' HO485.out).2.1)
             rintro e w57 ⟨v489, rfl, ho0, hb⟩
             refine ⟨_, rfl, ?_⟩
             have n0_ := a_ (Kd.R_elder' (by refine rq_ ?_; exact HO476.out) (Kd.R_base ho0) hb)
             have n1_ := a_ (Kd.R_elder' (by refine rq_ ?_; exact HO485.out) (Kd.R_base ho0) hb)
             have n2_ := a_ (Kd.R_lower (Kd.R_newB (Kd.R_new' (Kd.R_new' ho0 (Kd.R_lt (by refine rq_ ?_; exact HO476.out))) (Kd.R_lt (by refine rq_ ?_; exact HO485.out))) (g := gb482) (o := .cells #[.string a2, .string ((rd_T71 t474 t459).f1), .int .i64 ((rd_T71 t474 t459).f2)] 71 (0, 0)) (bk_ BK482)) (below_size (bl_4 HB GE456 GE457 GE480 GE482)))
             have n3_ := bB_ BK456 hb
             have n4_ := bB_ BK457 hb
             have n5_ := bB_ BK480 hb
             have n6_ := bB_ BK482 hb
             have n7_ := hB_ (bl_4 HB GE456 GE457 GE480 GE482) hb
             clear HO476
             clear HO485
             clear BK456
             clear BK457
             clear BK480
             clear BK482
             clear HB
             have HO476 := n0_
             have HO485 := n1_
             have HO490 := n2_
             have BK456 := n3_
             have BK457 := n4_
             have BK480 := n5_
             have BK482 := n6_
             have HB := n7_
             clear n0_ n1_ n2_ n3_ n4_ n5_ n6_ n7_
             (try clear hb)
             (try clear hb2)
             (try clear hk)
             (try clear hi)
             (try clear ho0)
             obtain ⟨Ao58, co58, eo58⟩ := Kd.R_slice HO490.out
             (first | subst eo58 | (injection eo58 with f1_ f2_ f3_; have f4_ := f1_.symm; have f5_ := f3_.symm; clear f1_ f2_ f3_; subst f4_; subst f5_))
             refine hK.out _ _ ⟨(blk_cell BK480.out 0).trans rfl, (blk_cell BK480.out 1).trans rfl, (blk_cell BK480.out 2).trans rfl, (blk_cell BK482.out 0).trans rfl, (blk_cell BK482.out 1).trans rfl, (blk_cell BK482.out 2).trans rfl⟩ (fun hHeld => ?_)
             clear hK K
             refine norm_ (a' := ?_) ?_ ?_
             rotate_left
             ·show Act.put _ (some 76) _ = _
              simp only [Act.put, List.setIfInBounds_toArray, List.set_cons_zero, List.set_cons_succ, i64_w, i32_w]
              rfl
             refine one_ (i := 5) (N := none) #[true, true, true, true, true, true, false] rfl rfl (by kernel_rfl) (by decide) (fun K hK => ?_)
             have hs59 : w57.cell? ⟨gb457, 0, none⟩ = some (.slice none 0 0) := (blk_cell BK457.out 0).trans rfl
             have hfs59 := blk_frozen BK457.out 0
             have hns59_0 := NB456_457.out
             have hns59_2 := NB480_457.out
             have hns59_3 := NB482_457.out
             have hms59_0 := NB457_456.out
             have hms59_2 := NB457_480.out
             have hms59_3 := NB457_482.out
             have hs60 : w57.cell? ⟨gb457, 1, none⟩ = some (.bool false) := (blk_cell BK457.out 1).trans rfl
             have hfs60 := blk_frozen BK457.out 1
             have hns60_0 := NB456_457.out
             have hns60_2 := NB480_457.out
             have hns60_3 := NB482_457.out
             have hms60_0 := NB457_456.out
             have hms60_2 := NB457_480.out
             have hms60_3 := NB457_482.out
             have hs61 : w57.cell? ⟨gb457, 2, none⟩ = some (.int .i64 0) := (blk_cell BK457.out 2).trans rfl
             have hfs61 := blk_frozen BK457.out 2
             have hns61_0 := NB456_457.out
             have hns61_2 := NB480_457.out
             have hns61_3 := NB482_457.out
             have hms61_0 := NB457_456.out
             have hms61_2 := NB457_480.out
             have hms61_3 := NB457_482.out
             refine skip_ (w1 := ?_) (by rfl) rfl ?_ ?_
             rotate_left
             ·go_simp
              rfl
             refine hK.out _ _ ⟨((cell_far (p := ⟨gb457, _, none⟩) NB480_457.out _).trans (((cell_far (p := ⟨gb457, _, none⟩) NB480_457.out _).trans (((cell_far (p := ⟨gb457, _, none⟩) NB480_457.out _).trans (hHeld.1)))))), ((cell_far (p := ⟨gb457, _, none⟩) NB480_457.out _).trans (((cell_far (p := ⟨gb457, _, none⟩) NB480_457.out _).trans (((cell_far (p := ⟨gb457, _, none⟩) NB480_457.out _).trans (hHeld.2.1)))))), ((cell_far (p := ⟨gb457, _, none⟩) NB480_457.out _).trans (((cell_far (p := ⟨gb457, _, none⟩) NB480_457.out _).trans (((cell_far (p := ⟨gb457, _, none⟩) NB480_457.out _).trans (hHeld.2.2.1)))))), ((cell_far (p := ⟨gb457, _, none⟩) NB482_457.out _).trans (((cell_far (p := ⟨gb457, _, none⟩) NB482_457.out _).trans (((cell_far (p := ⟨gb457, _, none⟩) NB482_457.out _).trans (hHeld.2.2.2.1)))))), ((cell_far (p := ⟨gb457, _, none⟩) NB482_457.out _).trans (((cell_far (p := ⟨gb457, _, none⟩) NB482_457.out _).trans (((cell_far (p := ⟨gb457, _, none⟩) NB482_457.out _).trans (hHeld.2.2.2.2.1)))))), ((cell_far (p := ⟨gb457, _, none⟩) NB482_457.out _).trans (((cell_far (p := ⟨gb457, _, none⟩) NB482_457.out _).trans (((cell_far (p := ⟨gb457, _, none⟩) NB482_457.out _).trans (hHeld.2.2.2.2.2))))))⟩ (fun hHeld => ?_)
             clear hK K
             refine pure_ (i := 6) (N := some 7) (v := ?_) (a' := ?_) #[true, true, true, true, true, true, true] rfl rfl (by kernel_rfl) (fun _ _ _ h => h) (Or.inl ⟨by rfl, ?_⟩) ?_ ?_
             rotate_left
             ·intro w'
              go_simp
              with_reducible rfl
             rotate_left
             ·exact ap_
             refine done_ (by kernel_rfl) ?_
             try go_wp2
             refine bodyPost_ret (results_ct rfl _ _ gb457 24 #[.slice Ao58 t488.length co58, .bool t491, .int .i64 t492] (0, 0) _ rfl (bp_0 BK457) Try.underlying24 rfl (by kernel_rfl)) rfl ?_
             exact ⟨_, fz_, by refine rq_ ?_; exact Kd.R_mono (Kd.R_far (p := ⟨gb457, 2, none⟩) (Kd.R_far (p := ⟨gb457, 1, none⟩) (Kd.R_far (p := ⟨gb457, 0, none⟩) (Kd.R_types HO490.out BK457.out (by decide)) (fun _ hk => hk.2) (.slice Ao58 t488.length co58)) (fun _ hk => hk.2) (.bool t491)) (fun _ hk => hk.2) (.int .i64 t492)) (fun _ hk => trivial), bl_4 HB GE456 GE457 GE480 GE482⟩end Go.Proofs.Ytpigjmjbfpipnaa.PD
