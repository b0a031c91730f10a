-- By a program of this session.
import Derived.Test.YtpigjmjbfpipnaaPDx0
import Derived.Test.YtpigjmjbfpipnaaPDx6
import Derived.Test.YtpigjmjbfpipnaaPDx13
import Derived.Test.YtpigjmjbfpipnaaPDx14
namespace Go.Proofs.Ytpigjmjbfpipnaa.PD
open Go.RowKit YtpigjmjbfpipnaaW.PrintWords YtpigjmjbfpipnaaW.PrintLast YtpigjmjbfpipnaaW.PrintMore Sh Ytpigjmjbfpipnaa.Op
attribute [local go_sem] max2_int min2_int max_two min_two max_three min_three max_four min_four
set_option linter.unusedVariables false
set_option maxHeartbeats 80000000
set_option maxRecDepth 100000
set_option linter.unusedSimpArgs false

mutual
def gafferref02_Add.j0 : Nat → ByteArray → ByteArray → Int → Int → Bool → List (S71) → Bool → Int → Option ((List (S71)) × Bool × Int × Int)
 | 0, _, _, _, _, _, _, _, _ => none
 | k + 1, x1, x2, x8, x9, x24, x403000, x403001, x403002 => if x24 = true then (gafferref02_Add.j1 k x1 x2 5 x9 x403000 x403001 x403002) else (gafferref02_Add.j1 k x1 x2 x8 x9 x403000 x403001 x403002)
def gafferref02_Add.j1 : Nat → ByteArray → ByteArray → Int → Int → List (S71) → Bool → Int → Option ((List (S71)) × Bool × Int × Int)
 | 0, _, _, _, _, _, _, _ => none
 | k + 1, x1, x2, x8, x9, x403000, x403001, x403002 => if x8 = 0 then (if x9 < 0 then (gafferref02_Add.j2 k x1 x2 x8 x9 (decide ((x403000.length : Int) ≥ 4096)) x403000 x403001 x403002) else (gafferref02_Add.j2 k x1 x2 x8 x9 false x403000 x403001 x403002)) else (gafferref02_Add.j2 k x1 x2 x8 x9 false x403000 x403001 x403002)
def gafferref02_Add.j2 : Nat → ByteArray → ByteArray → Int → Int → Bool → List (S71) → Bool → Int → Option ((List (S71)) × Bool × Int × Int)
 | 0, _, _, _, _, _, _, _, _ => none
 | k + 1, x1, x2, x8, x9, x36, x403000, x403001, x403002 => if x36 = true then (gafferref02_Add.j3 k x1 x2 11 x9 x403000 x403001 x403002) else (gafferref02_Add.j3 k x1 x2 x8 x9 x403000 x403001 x403002)
def gafferref02_Add.j3 : Nat → ByteArray → ByteArray → Int → Int → List (S71) → Bool → Int → Option ((List (S71)) × Bool × Int × Int)
 | 0, _, _, _, _, _, _, _ => none
 | k + 1, x1, x2, x8, x9, x403000, x403001, x403002 => if x8 = 0 then (if x9 ≥ 0 then (if 0 ≤ x9 then (if x9 < (x403000.length : Int) then (gafferref02_Add.j4 k x2 x403000 x403001 x403002 ((rd_T71 x403000 x9).f0) ((rd_T71 x403000 x9).f1) ((rd_T71 x403000 x9).f2)) else (none)) else (none)) else (gafferref02_Add.j4 k x2 x403000 x403001 x403002 x1 (⟨#[]⟩ : ByteArray) 0)) else ((gafferref02_bad.f x403000 x403001 x403002 x8).bind fun bt407 => (some (bt407.1, bt407.2.1, bt407.2.2.1, bt407.2.2.2)))
def gafferref02_Add.j4 : Nat → ByteArray → List (S71) → Bool → Int → ByteArray → ByteArray → Int → Option ((List (S71)) × Bool × Int × Int)
 | 0, _, _, _, _, _, _, _ => none
 | k + 1, x2, x403000, x403001, x403002, x414000, x414001, x414002 => if x414001.size + x2.size ≤ 9223372036854775807 then ((gafferref02_with.f k x403000 x403001 x403002 x414000 (x414001 ++ x2) x414002).bind fun bt415 => ((gafferref02_burnt.f bt415.1 bt415.2.1 bt415.2.2).bind fun bt420 => (if bt420.2.2.2 = true then (some (bt420.1, bt420.2.1, bt420.2.2.1, 0)) else (some (bt420.1, bt420.2.1, bt420.2.2.1, 8))))) else (none)
end
def gafferref02_Add.f (k : Nat) (l0_0 : List (S71)) (a0_1 : Bool) (a0_2 : Int) (a1 : ByteArray) (a2 : ByteArray) : Option ((List (S71)) × Bool × Int × Int) := (gafferref02_ready.f k l0_0 a0_1 a0_2).bind fun t404 => ((gafferref02_find.f k l0_0 a0_1 a0_2 a1).bind fun t405 => (if t404 = 0 then ((gafferref02_name.f a1).bind fun t406 => (gafferref02_Add.j0 k a1 a2 t404 t405 (!t406) l0_0 a0_1 a0_2)) else (gafferref02_Add.j0 k a1 a2 t404 t405 false l0_0 a0_1 a0_2)))
theorem gafferref02_Add.mono_l : ∀ k, (∀ y0 y1 y2 y3 y4 y5 y6 y7, LeO (gafferref02_Add.j0 k y0 y1 y2 y3 y4 y5 y6 y7) (gafferref02_Add.j0 (k + 1) y0 y1 y2 y3 y4 y5 y6 y7)) ∧ (∀ y0 y1 y2 y3 y4 y5 y6, LeO (gafferref02_Add.j1 k y0 y1 y2 y3 y4 y5 y6) (gafferref02_Add.j1 (k + 1) y0 y1 y2 y3 y4 y5 y6)) ∧ (∀ y0 y1 y2 y3 y4 y5 y6 y7, LeO (gafferref02_Add.j2 k y0 y1 y2 y3 y4 y5 y6 y7) (gafferref02_Add.j2 (k + 1) y0 y1 y2 y3 y4 y5 y6 y7)) ∧ (∀ y0 y1 y2 y3 y4 y5 y6, LeO (gafferref02_Add.j3 k y0 y1 y2 y3 y4 y5 y6) (gafferref02_Add.j3 (k + 1) y0 y1 y2 y3 y4 y5 y6)) ∧ (∀ y0 y1 y2 y3 y4 y5 y6, LeO (gafferref02_Add.j4 k y0 y1 y2 y3 y4 y5 y6) (gafferref02_Add.j4 (k + 1) y0 y1 y2 y3 y4 y5 y6))
 | 0 => ⟨fun _ _ _ _ _ _ _ _ r h => by simp [gafferref02_Add.j0] at h, fun _ _ _ _ _ _ _ r h => by simp [gafferref02_Add.j1] at h, fun _ _ _ _ _ _ _ _ r h => by simp [gafferref02_Add.j2] at h, fun _ _ _ _ _ _ _ r h => by simp [gafferref02_Add.j3] at h, fun _ _ _ _ _ _ _ r h => by simp [gafferref02_Add.j4] at h⟩
 | k + 1 => by
  obtain ⟨ih0, ih1, ih2, ih3, ih4⟩ := gafferref02_Add.mono_l k
  refine ⟨?_, ?_, ?_, ?_, ?_⟩
  ·intro y0 y1 y2 y3 y4 y5 y6 y7
   unfold gafferref02_Add.j0
   repeat' with_reducible first | apply ih0 | apply ih1 | apply ih2 | apply ih3 | apply ih4 | apply gafferref02_find.mono | apply gafferref02_ready.mono | apply gafferref02_with.mono | apply LeO.refl | apply LeO.none | apply LeO.ite | refine LeO.bind ?_ (fun _ => ?_)
  ·intro y0 y1 y2 y3 y4 y5 y6
   unfold gafferref02_Add.j1
   repeat' with_reducible first | apply ih0 | apply ih1 | apply ih2 | apply ih3 | apply ih4 | apply gafferref02_find.mono | apply gafferref02_ready.mono | apply gafferref02_with.mono | apply LeO.refl | apply LeO.none | apply LeO.ite | refine LeO.bind ?_ (fun _ => ?_)
  ·intro y0 y1 y2 y3 y4 y5 y6 y7
   unfold gafferref02_Add.j2
   repeat' with_reducible first | apply ih0 | apply ih1 | apply ih2 | apply ih3 | apply ih4 | apply gafferref02_find.mono | apply gafferref02_ready.mono | apply gafferref02_with.mono | apply LeO.refl | apply LeO.none | apply LeO.ite | refine LeO.bind ?_ (fun _ => ?_)
  ·intro y0 y1 y2 y3 y4 y5 y6
   unfold gafferref02_Add.j3
   repeat' with_reducible first | apply ih0 | apply ih1 | apply ih2 | apply ih3 | apply ih4 | apply gafferref02_find.mono | apply gafferref02_ready.mono | apply gafferref02_with.mono | apply LeO.refl | apply LeO.none | apply LeO.ite | refine LeO.bind ?_ (fun _ => ?_)
  ·intro y0 y1 y2 y3 y4 y5 y6
   unfold gafferref02_Add.j4
   repeat' with_reducible first | apply ih0 | apply ih1 | apply ih2 | apply ih3 | apply ih4 | apply gafferref02_find.mono | apply gafferref02_ready.mono | apply gafferref02_with.mono | apply LeO.refl | apply LeO.none | apply LeO.ite | refine LeO.bind ?_ (fun _ => ?_)
theorem gafferref02_Add.mono : ∀ a0 a1 a2 a3 a4 k, LeO (gafferref02_Add.f k a0 a1 a2 a3 a4) (gafferref02_Add.f (k + 1) a0 a1 a2 a3 a4) := by
 intro a0 a1 a2 a3 a4 k
 obtain ⟨ih0, ih1, ih2, ih3, ih4⟩ := gafferref02_Add.mono_l k
 unfold gafferref02_Add.f
 repeat' with_reducible first | apply ih0 | apply ih1 | apply ih2 | apply ih3 | apply ih4 | apply gafferref02_find.mono | apply gafferref02_ready.mono | apply gafferref02_with.mono | apply LeO.refl | apply LeO.none | apply LeO.ite | refine LeO.bind ?_ (fun _ => ?_)
theorem gafferref02_Add.calls (k : Nat) (A0_0 : Option Addr) (c0_0 : Nat) (l0_0 : List (S71)) (a0_1 : Bool) (a0_2 : Int) (a1 : ByteArray) (a2 : ByteArray) (r1 : List (S71)) (r2 : Bool) (r3 : Int) (r4 : Int) (w : World) (hr0_0 : Kd.C k71 w A0_0 l0_0.length l0_0) (hc0_0 : l0_0.length ≤ c0_0) (h : gafferref02_Add.f k l0_0 a0_1 a0_2 a1 a2 = some (r1, r2, r3, r4)) :
  Calls Try.prog 76 #[.agg #[.slice A0_0 l0_0.length c0_0, .bool a0_1, .int .i64 a0_2], .string a1, .string a2] w fun e w' => ∃ v0_ : Value, e = .returned (.tuple #[.agg #[v0_, .bool r2, .int .i64 r3], .int .i64 r4]) ∧ Kd.R k71 71 w' w.heap.size (fun _ => True) v0_ r1 ∧ Below w.heap.size w w' := by
 have hu24 := Try.underlying24
 have hu71 := Try.underlying71
 have HR0_0 := a_ hr0_0
 have HC0_0 := a_ hc0_0
 clear hr0_0 hc0_0
 have HB := a_ (Below.refl w.heap.size w)
 have H : ((gafferref02_ready.f k l0_0 a0_1 a0_2).bind fun t404 => ((gafferref02_find.f k l0_0 a0_1 a0_2 a1).bind fun t405 => (if t404 = 0 then ((gafferref02_name.f a1).bind fun t406 => (gafferref02_Add.j0 k a1 a2 t404 t405 (!t406) l0_0 a0_1 a0_2)) else (gafferref02_Add.j0 k a1 a2 t404 t405 false l0_0 a0_1 a0_2)))) = some (r1, r2, r3, r4) := h
 clear h
 obtain ⟨t404, A40, H⟩ := Option.bind_eq_some_iff.mp H
 try dsimp only at H
 have A4 := a_ A40
 clear A40
 obtain ⟨t405, A50, H⟩ := Option.bind_eq_some_iff.mp H
 try dsimp only at H
 have A5 := a_ A50
 clear A50
 have HC6 := a_ H
 clear H
 go_enter Try.func76, Try.ntmps76
 go_upto_region 3 with (first | ((with_reducible refine gd_ 3 ?_); (try (refine gate_guard (by rfl) ?_; dsimp only)); refine bx_ 3 #[.slice A0_0 l0_0.length c0_0, .bool a0_1, .int .i64 a0_2] 24 ?_; intro gb402 hg w7 hbox hb; have BK402 := a_ (hbox); have GE402 := a_ (bs_0 hg HB); replace HB := hB_ (bl_ HB) hb; clear hb hbox hg) | ((with_reducible refine gd_ 6 ?_); (try (refine gate_guard (by rfl) ?_; dsimp only)); refine bx_ 6 #[.slice none 0 0, .bool false, .int .i64 0] 24 ?_; intro gb403 hg w8 hbox hb; have BK403 := a_ (hbox); have GE403 := a_ (bs_1 hg HB GE402); replace HB := hB_ (bl_1 HB GE402) hb; have NB402_403 := nB_ hg BK402; have NB403_402 := nC_ hg BK402; replace BK402 := bB_ BK402 hb; clear hb hbox hg; have hnb9 := NB402_403.out; have hnc9 := NB403_402.out; obtain ⟨hcz10_0, hcz10_1, hcz10_2, hfz10_0, hfz10_1, hfz10_2⟩ := c3_ BK402) | ((with_reducible refine gk_ 97 ?_); refine gl_ (some 14) Try.func97 #[.agg #[.slice A0_0 l0_0.length c0_0, .bool a0_1, .int .i64 a0_2]] ?_; (with_reducible refine (gafferref02_ready.calls k _ _ l0_0 a0_1 a0_2 t404 _ ?side1 ?side2 A4.out).mono ?_); (case side1 => exact cl_ (Kd.C_below HR0_0.out HB.out)); (case side2 => exact HC0_0.out); rintro e w11 ⟨rfl, hb⟩; refine ⟨_, rfl, ?_⟩; replace BK402 := bB_ BK402 hb; replace BK403 := bB_ BK403 hb; replace HB := hB_ (bl_2 HB GE402 GE403) hb; (try clear hb); obtain ⟨hcz12_0, hcz12_1, hcz12_2, hfz12_0, hfz12_1, hfz12_2⟩ := c3_ BK402) | ((with_reducible refine gk_ 64 ?_); refine gl_ (some 17) Try.func64 #[.agg #[.slice A0_0 l0_0.length c0_0, .bool a0_1, .int .i64 a0_2], .string a1] ?_; (with_reducible refine (gafferref02_find.calls k _ _ l0_0 a0_1 a0_2 a1 t405 _ ?side1 ?side2 A5.out).mono ?_); (case side1 => exact cl_ (Kd.C_below HR0_0.out HB.out)); (case side2 => exact HC0_0.out); rintro e w13 ⟨rfl, hb⟩; refine ⟨_, rfl, ?_⟩; replace BK402 := bB_ BK402 hb; replace BK403 := bB_ BK403 hb; replace HB := hB_ (bl_2 HB GE402 GE403) hb; (try clear hb)))
 (try simp only [Act.put, List.setIfInBounds_toArray, List.set_cons_zero, List.set_cons_succ])
 go_cut [24] (fun v24 wc => ∃ (kq : Nat) (x24_5 : Bool), v24 = .bool x24_5 ∧ Aside0 (gafferref02_Add.j0 kq a1 a2 t404 t405 x24_5 l0_0 a0_1 a0_2 = some (r1, r2, r3, r4)) ∧ Aside0 (kq ≤ k) ∧ Aside0 (wc.heap[gb402]? = some (.cells #[(.slice A0_0 l0_0.length c0_0), .bool a0_1, .int .i64 a0_2] 24 (0, 0))) ∧ Aside0 (wc.heap[gb403]? = some (.cells #[(.slice none 0 0), .bool false, .int .i64 0] 24 (0, 0))) ∧ Aside0 (Below w.heap.size w wc))
 case first =>
  have H := HC6.out
  clear HC6
  by_cases c14 : t404 = 0
  rotate_left
  ·rw [if_neg c14] at H
   have c14b0 : (t404 == 0) = false := beq_eq_false_iff_ne.mpr c14
   have c14b1 : (t404 != 0) = true := bne_iff_ne.mpr c14
   (first | rw [c14b0] | (simp only [i64_w, i32_w]; rw [c14b0]) | skip)
   have H' := a_ H
   clear H
   go_wp2
   go_meet
   case rel => exact ⟨_, (false), fz_, H', ⟨by first | omega | exact Nat.le_refl _⟩, ⟨bk_ BK402⟩, ⟨bk_ BK403⟩, ⟨bl_2 HB GE402 GE403⟩⟩
  rw [if_pos c14] at H
  have c14b0 : (t404 == 0) = true := beq_iff_eq.mpr c14
  have c14b1 : (t404 != 0) = false := bne_eq_false_iff_eq.mpr c14
  clear c14
  (first | rw [c14b0] | (simp only [i64_w, i32_w]; rw [c14b0]) | skip)
  obtain ⟨t406, A150, H⟩ := Option.bind_eq_some_iff.mp H
  try dsimp only at H
  have A15 := a_ A150
  clear A150
  have H' := a_ H
  clear H
  go_wp2_with (first | (go_at_call 101; (with_reducible refine (gafferref02_name.calls a1 t406 _ A15.out).mono ?_); rintro e w' ⟨rfl, ⟨nd, rfl⟩⟩))
  go_meet
  case rel => exact ⟨_, (!t406), fz_, H', ⟨by first | omega | exact Nat.le_refl _⟩, ⟨bk_ BK402⟩, ⟨bk_ BK403⟩, ⟨bl_2 HB GE402 GE403⟩⟩
 case rest =>
  clear HC6
  try clear c1
  try clear p2
  try clear c6
  try clear c7
  try clear c9
  try clear c14
  try clear c14b0
  try clear c14b1
  obtain ⟨kq, x24_5, rfl, HA, HJ5, BK402, BK403, HB⟩ := hcut
  cases kq with
  | zero => exact absurd HA.out (by simp [gafferref02_Add.j0])
  | succ kj5 =>
   have H := HA.out
   clear HA
   simp only [gafferref02_Add.j0] at H
   have HC16 := a_ H
   clear H
   go_upto_if 24 with (fail)
   go_cut [8] (fun v8 wc => ∃ (kq : Nat) (x8_15 : Int), v8 = .int .i64 x8_15 ∧ Aside0 (gafferref02_Add.j1 kq a1 a2 x8_15 t405 l0_0 a0_1 a0_2 = some (r1, r2, r3, r4)) ∧ Aside0 (kq ≤ kj5) ∧ Aside0 (wc.heap[gb402]? = some (.cells #[(.slice A0_0 l0_0.length c0_0), .bool a0_1, .int .i64 a0_2] 24 (0, 0))) ∧ Aside0 (wc.heap[gb403]? = some (.cells #[(.slice none 0 0), .bool false, .int .i64 0] 24 (0, 0))) ∧ Aside0 (Below w.heap.size w wc))
   case first =>
    have H := HC16.out
    clear HC16
    by_cases c17 : x24_5 = true
    ·subst c17
     have H1 : (gafferref02_Add.j1 kj5 a1 a2 5 t405 l0_0 a0_1 a0_2) = some (r1, r2, r3, r4) := by rw [if_pos rfl] at H; exact H
     clear H
     have H := H1
     clear H1
     have H' := a_ H
     clear H
     go_wp2
     go_meet
     case rel => exact ⟨_, (5), fz_, H', ⟨by have := HJ5.out; first | omega | exact Nat.le_refl _⟩, ⟨bk_ BK402⟩, ⟨bk_ BK403⟩, ⟨bl_2 HB GE402 GE403⟩⟩
    replace c17 := Bool.eq_false_iff.mpr c17
    subst c17
    have H1 : (gafferref02_Add.j1 kj5 a1 a2 t404 t405 l0_0 a0_1 a0_2) = some (r1, r2, r3, r4) := by rw [if_neg (show ¬ (false = true) by decide)] at H; exact H
    clear H
    have H := H1
    clear H1
    have H' := a_ H
    clear H
    go_wp2
    go_meet
    case rel => exact ⟨_, (t404), fz_, H', ⟨by have := HJ5.out; first | omega | exact Nat.le_refl _⟩, ⟨bk_ BK402⟩, ⟨bk_ BK403⟩, ⟨bl_2 HB GE402 GE403⟩⟩
   case rest =>
    clear HC16
    try clear c1
    try clear p2
    try clear c6
    try clear c7
    try clear c9
    try clear c14
    try clear c14b0
    try clear c14b1
    try clear c17
    try clear p2
    obtain ⟨kq, x8_15, rfl, HA, HJ15, BK402, BK403, HB⟩ := hcut
    cases kq with
    | zero => exact absurd HA.out (by simp [gafferref02_Add.j1])
    | succ kj15 =>
     have H := HA.out
     clear HA
     simp only [gafferref02_Add.j1] at H
     have HC18 := a_ H
     clear H
     go_upto_region 5 with (fail)
     go_cut [36] (fun v36 wc => ∃ (kq : Nat) (x36_17 : Bool), v36 = .bool x36_17 ∧ Aside0 (gafferref02_Add.j2 kq a1 a2 x8_15 t405 x36_17 l0_0 a0_1 a0_2 = some (r1, r2, r3, r4)) ∧ Aside0 (kq ≤ kj15) ∧ Aside0 (wc.heap[gb402]? = some (.cells #[(.slice A0_0 l0_0.length c0_0), .bool a0_1, .int .i64 a0_2] 24 (0, 0))) ∧ Aside0 (wc.heap[gb403]? = some (.cells #[(.slice none 0 0), .bool false, .int .i64 0] 24 (0, 0))) ∧ Aside0 (Below w.heap.size w wc))
     case first =>
      have H := HC18.out
      clear HC18
      by_cases c19 : x8_15 = 0
      rotate_left
      ·rw [if_neg c19] at H
       have c19b0 : (x8_15 == 0) = false := beq_eq_false_iff_ne.mpr c19
       have c19b1 : (x8_15 != 0) = true := bne_iff_ne.mpr c19
       (first | rw [c19b0] | (simp only [i64_w, i32_w]; rw [c19b0]) | skip)
       have H' := a_ H
       clear H
       go_wp2
       go_meet
       case rel => exact ⟨_, (false), fz_, H', ⟨by have := HJ5.out; have := HJ15.out; first | omega | exact Nat.le_refl _⟩, ⟨bk_ BK402⟩, ⟨bk_ BK403⟩, ⟨bl_2 HB GE402 GE403⟩⟩
      rw [if_pos c19] at H
      have c19b0 : (x8_15 == 0) = true := beq_iff_eq.mpr c19
      have c19b1 : (x8_15 != 0) = false := bne_eq_false_iff_eq.mpr c19
      clear c19
      (first | rw [c19b0] | (simp only [i64_w, i32_w]; rw [c19b0]) | skip)
      by_cases c20 : t405 < 0
      rotate_left
      ·rw [if_neg c20] at H
       have c20b0 : decide (t405 < 0) = false := decide_eq_false c20
       clear c20
       have H' := a_ H
       clear H
       go_wp2
       go_meet
       case rel => exact ⟨_, (false), fz_, H', ⟨by have := HJ5.out; have := HJ15.out; first | omega | exact Nat.le_refl _⟩, ⟨bk_ BK402⟩, ⟨bk_ BK403⟩, ⟨bl_2 HB GE402 GE403⟩⟩
      rw [if_pos c20] at H
      have c20b0 : decide (t405 < 0) = true := decide_eq_true c20
      clear c20
      have H' := a_ H
      clear H
      have hnb21 := NB402_403.out
      have hnc21 := NB403_402.out
      obtain ⟨hcz22_0, hcz22_1, hcz22_2, hfz22_0, hfz22_1, hfz22_2⟩ := c3_ BK402
      go_wp2
      go_meet
      case rel => exact ⟨_, (decide ((l0_0.length : Int) ≥ 4096)), fz_, H', ⟨by have := HJ5.out; have := HJ15.out; first | omega | exact Nat.le_refl _⟩, ⟨bk_ BK402⟩, ⟨bk_ BK403⟩, ⟨bl_2 HB GE402 GE403⟩⟩
     case rest =>
      clear HC18
      try clear c1
      try clear c2
      try clear p2
      try clear c6
      try clear c7
      try clear c9
      try clear c14
      try clear c14b0
      try clear c14b1
      try clear c17
      try clear c19
      try clear c19b0
      try clear c19b1
      try clear c20
      try clear c20b0
      try clear c21
      try clear p2
      obtain ⟨kq, x36_17, rfl, HA, HJ17, BK402, BK403, HB⟩ := hcut
      cases kq with
      | zero => exact absurd HA.out (by simp [gafferref02_Add.j2])
      | succ kj17 =>
       have H := HA.out
       clear HA
       simp only [gafferref02_Add.j2] at H
       have HC23 := a_ H
       clear H
       go_upto_if 36 with (fail)
       go_cut [8] (fun v8 wc => ∃ (kq : Nat) (x8_22 : Int), v8 = .int .i64 x8_22 ∧ Aside0 (gafferref02_Add.j3 kq a1 a2 x8_22 t405 l0_0 a0_1 a0_2 = some (r1, r2, r3, r4)) ∧ Aside0 (kq ≤ kj17) ∧ Aside0 (wc.heap[gb402]? = some (.cells #[(.slice A0_0 l0_0.length c0_0), .bool a0_1, .int .i64 a0_2] 24 (0, 0))) ∧ Aside0 (wc.heap[gb403]? = some (.cells #[(.slice none 0 0), .bool false, .int .i64 0] 24 (0, 0))) ∧ Aside0 (Below w.heap.size w wc))
       case first =>
        have H := HC23.out
        clear HC23
        by_cases c24 : x36_17 = true
        ·subst c24
         have H1 : (gafferref02_Add.j3 kj17 a1 a2 11 t405 l0_0 a0_1 a0_2) = some (r1, r2, r3, r4) := by rw [if_pos rfl] at H; exact H
         clear H
         have H := H1
         clear H1
         have H' := a_ H
         clear H
         go_wp2
         go_meet
         case rel => exact ⟨_, (11), fz_, H', ⟨by have := HJ5.out; have := HJ15.out; have := HJ17.out; first | omega | exact Nat.le_refl _⟩, ⟨bk_ BK402⟩, ⟨bk_ BK403⟩, ⟨bl_2 HB GE402 GE403⟩⟩
        replace c24 := Bool.eq_false_iff.mpr c24
        subst c24
        have H1 : (gafferref02_Add.j3 kj17 a1 a2 x8_15 t405 l0_0 a0_1 a0_2) = some (r1, r2, r3, r4) := by rw [if_neg (show ¬ (false = true) by decide)] at H; exact H
        clear H
        have H := H1
        clear H1
        have H' := a_ H
        clear H
        go_wp2
        go_meet
        case rel => exact ⟨_, (x8_15), fz_, H', ⟨by have := HJ5.out; have := HJ15.out; have := HJ17.out; first | omega | exact Nat.le_refl _⟩, ⟨bk_ BK402⟩, ⟨bk_ BK403⟩, ⟨bl_2 HB GE402 GE403⟩⟩
       case rest =>
        clear HC23
        try clear c1
        try clear c2
        try clear p2
        try clear c6
        try clear c7
        try clear c9
        try clear c14
        try clear c14b0
        try clear c14b1
        try clear c17
        try clear c19
        try clear c19b0
        try clear c19b1
        try clear c20
        try clear c20b0
        try clear c21
        try clear c24
        try clear p2
        obtain ⟨kq, x8_22, rfl, HA, HJ22, BK402, BK403, HB⟩ := hcut
        cases kq with
        | zero => exact absurd HA.out (by simp [gafferref02_Add.j3])
        | succ kj22 =>
         have H := HA.out
         clear HA
         simp only [gafferref02_Add.j3] at H
         by_cases c25 : x8_22 = 0
         rotate_left
         ·rw [if_neg c25] at H
          have c25b0 : (x8_22 == 0) = false := beq_eq_false_iff_ne.mpr c25
          have c25b1 : (x8_22 != 0) = true := bne_iff_ne.mpr c25
          obtain ⟨⟨t407, t410, t411, t412⟩, A730, H⟩ := Option.bind_eq_some_iff.mp H
          try dsimp only at H
          have A73 := a_ A730
          clear A730
          simp only [Option.some.injEq, Prod.mk.injEq] at H
          obtain ⟨rfl, rfl, rfl, rfl⟩ := H
          have hnb74 := NB402_403.out
          have hnc74 := NB403_402.out
          obtain ⟨hcz75_0, hcz75_1, hcz75_2, hfz75_0, hfz75_1, hfz75_2⟩ := c3_ BK402
          go_wp2_with (first | ((with_reducible refine gk_ 98 ?_); refine gl_ (some 41) Try.func98 #[.agg #[.slice A0_0 l0_0.length c0_0, .bool a0_1, .int .i64 a0_2], .int .i64 x8_22] ?_; (with_reducible refine (gafferref02_bad.calls _ _ l0_0 a0_1 a0_2 x8_22 t407 t410 t411 t412 _ ?side1 ?side2 A73.out).mono ?_); (case side1 => exact cl_ (Kd.C_below HR0_0.out HB.out)); (case side2 => exact HC0_0.out); rintro e w76 ⟨v408, rfl, ho0, hb⟩; refine ⟨_, rfl, ?_⟩; have HO409 := a_ (Kd.R_lower ho0 (below_size (bl_2 HB GE402 GE403))); replace BK402 := bB_ BK402 hb; replace BK403 := bB_ BK403 hb; replace HB := hB_ (bl_2 HB GE402 GE403) hb; (try clear hb); (try clear ho0); obtain ⟨Ao77, co77, eo77⟩ := Kd.R_slice HO409.out; subst eo77; obtain ⟨hcz78_0, hcz78_1, hcz78_2, hfz78_0, hfz78_1, hfz78_2⟩ := c3_ BK403))
          refine bodyPost_ret (results_ct rfl _ _ gb403 24 #[.slice Ao77 t407.length co77, .bool t410, .int .i64 t411] (0, 0) _ rfl (bp_0 BK403) Try.underlying24 rfl (by kernel_rfl)) rfl ?_
          exact ⟨_, fz_, by refine rq_ ?_; exact Kd.R_mono (Kd.R_far (p := ⟨gb403, 2, none⟩) (Kd.R_far (p := ⟨gb403, 1, none⟩) (Kd.R_far (p := ⟨gb403, 0, none⟩) (Kd.R_types HO409.out BK403.out (by decide)) (fun _ hk => hk.2) (.slice Ao77 t407.length co77)) (fun _ hk => hk.2) (.bool t410)) (fun _ hk => hk.2) (.int .i64 t411)) (fun _ hk => trivial), bl_2 HB GE402 GE403⟩


         rw [if_pos c25] at H
         have c25b0 : (x8_22 == 0) = true := beq_iff_eq.mpr c25
         have c25b1 : (x8_22 != 0) = false := bne_eq_false_iff_eq.mpr c25
         clear c25
         have HC26 := a_ H
         clear H
         go_upto_if 47 with (first | ((with_reducible refine gd_ 10 ?_); (try (refine gate_guard (by rfl) ?_; dsimp only)); refine bx_ 10 #[.string (⟨#[]⟩ : ByteArray), .string (⟨#[]⟩ : ByteArray), .int .i64 0] 71 ?_; intro gb413 hg w27 hbox hb; have BK413 := a_ (hbox); have GW413 := a_ (bs_2 hg HB GE402 GE403); have GE413 := a_ (bs_2 hg HB GE402 GE403); replace HB := hB_ (bl_2 HB GE402 GE403) hb; have NB402_413 := nB_ hg BK402; have NB413_402 := nC_ hg BK402; replace BK402 := bB_ BK402 hb; have NB403_413 := nB_ hg BK403; have NB413_403 := nC_ hg BK403; replace BK403 := bB_ BK403 hb; clear hb hbox hg; have hnb28 := NB413_402.out; have hnc28 := NB402_413.out; have hnb29 := NB413_403.out; have hnc29 := NB403_413.out; obtain ⟨hcz30_0, hcz30_1, hcz30_2, hfz30_0, hfz30_1, hfz30_2⟩ := c3_ BK413))
         (try simp only [Act.put, List.setIfInBounds_toArray, List.set_cons_zero, List.set_cons_succ])
         go_cut [] (fun wc => ∃ (kq : Nat) (x414000_25 : ByteArray) (x414001_25 : ByteArray) (x414002_25 : Int), Aside0 (gafferref02_Add.j4 kq a2 l0_0 a0_1 a0_2 x414000_25 x414001_25 x414002_25 = some (r1, r2, r3, r4)) ∧ Aside0 (kq ≤ kj22) ∧ Aside0 (wc.heap[gb402]? = some (.cells #[(.slice A0_0 l0_0.length c0_0), .bool a0_1, .int .i64 a0_2] 24 (0, 0))) ∧ Aside0 (wc.heap[gb403]? = some (.cells #[(.slice none 0 0), .bool false, .int .i64 0] 24 (0, 0))) ∧ Aside0 (wc.heap[gb413]? = some (.cells #[.string x414000_25, .string x414001_25, .int .i64 x414002_25] 71 (0, 0))) ∧ Aside0 (Below w.heap.size w wc))
         case first =>
          have H := HC26.out
          clear HC26
          by_cases c31 : t405 ≥ 0
          rotate_left
          ·rw [if_neg c31] at H
           have c31b0 : decide (0 ≤ t405) = false := decide_eq_false c31
           clear c31
           (first | rw [c31b0] | (simp only [i64_w, i32_w]; rw [c31b0]) | skip)
           have H' := a_ H
           clear H
           go_wp2
           go_meet
           case rel => exact ⟨_, (a1), ((⟨#[]⟩ : ByteArray)), (0), H', ⟨by have := HJ5.out; have := HJ15.out; have := HJ17.out; have := HJ22.out; first | omega | exact Nat.le_refl _⟩, ⟨by refine bq_ ?_; refine blk_far ?_ NB402_413.out _; refine bq_ ?_; refine blk_far ?_ NB402_413.out _; refine bq_ ?_; refine blk_far ?_ NB402_413.out _; refine bq_ ?_; exact BK402.out⟩, ⟨by refine bq_ ?_; refine blk_far ?_ NB403_413.out _; refine bq_ ?_; refine blk_far ?_ NB403_413.out _; refine bq_ ?_; refine blk_far ?_ NB403_413.out _; refine bq_ ?_; exact BK403.out⟩, ⟨by refine bq_ ?_; refine blk_put (cs := #[.string a1, .string (⟨#[]⟩ : ByteArray), .int .i64 0]) ?_ 2 _ rfl; refine bq_ ?_; refine blk_put (cs := #[.string a1, .string (⟨#[]⟩ : ByteArray), .int .i64 0]) ?_ 1 _ rfl; refine bq_ ?_; refine blk_put (cs := #[.string (⟨#[]⟩ : ByteArray), .string (⟨#[]⟩ : ByteArray), .int .i64 0]) ?_ 0 _ rfl; refine bq_ ?_; exact BK413.out⟩, ⟨bl_3 HB GE402 GE403 GE413⟩⟩
          rw [if_pos c31] at H
          have c31b0 : decide (0 ≤ t405) = true := decide_eq_true c31
          clear c31
          (first | rw [c31b0] | (simp only [i64_w, i32_w]; rw [c31b0]) | skip)
          by_cases c32 : 0 ≤ t405
          rotate_left
          ·rw [if_neg c32] at H
           exact absurd H (by simp)
          rw [if_pos c32] at H
          have c32b0 : decide (0 ≤ t405) = true := decide_eq_true c32
          clear c32
          by_cases c33 : t405 < (l0_0.length : Int)
          rotate_left
          ·rw [if_neg c33] at H
           exact absurd H (by simp)
          rw [if_pos c33] at H
          have c33b0 : decide (t405 < (l0_0.length : Int)) = true := decide_eq_true c33
          clear c33
          have H' := a_ H
          clear H
          have hnb34 := NB402_403.out
          have hnc34 := NB403_402.out
          have hnb35 := NB402_413.out
          have hnc35 := NB413_402.out
          obtain ⟨hcz36_0, hcz36_1, hcz36_2, hfz36_0, hfz36_1, hfz36_2⟩ := c3_ BK402
          have p414 : 0 ≤ (t405 : Int) := od_
          have q414 : t405 < (l0_0.length : Int) := od_
          obtain ⟨ad414, e414, hx414_0, hx414_1, hx414_2⟩ := at_T71 HR0_0.out t405 p414 q414
          cases e414
          have hn414_0 : ad414.block ≠ gb413 := Nat.ne_of_lt (Nat.lt_of_lt_of_le (by have := World.block_lt_of_cell? _ _ hx414_0; first | rwa [add_block] at this | exact this) GW413.out)
          have hn414_1 : ad414.block ≠ gb413 := Nat.ne_of_lt (Nat.lt_of_lt_of_le (by have := World.block_lt_of_cell? _ _ hx414_0; first | rwa [add_block] at this | exact this) GW413.out)
          have hn414_2 : ad414.block ≠ gb413 := Nat.ne_of_lt (Nat.lt_of_lt_of_le (by have := World.block_lt_of_cell? _ _ hx414_0; first | rwa [add_block] at this | exact this) GW413.out)
          replace hx414_0 := hc_ HB hx414_0
          replace hx414_1 := hc_ HB hx414_1
          replace hx414_2 := hc_ HB hx414_2
          replace hx414_0 := (cf_ (p := ⟨gb413, 0, none⟩) hn414_0 (.string a1)).trans hx414_0
          replace hx414_1 := (cf_ (p := ⟨gb413, 0, none⟩) hn414_0 (.string a1)).trans hx414_1
          replace hx414_2 := (cf_ (p := ⟨gb413, 0, none⟩) hn414_0 (.string a1)).trans hx414_2
          replace hx414_0 := (cf_ (p := ⟨gb413, 1, none⟩) hn414_1 (.string (⟨#[]⟩ : ByteArray))).trans hx414_0
          replace hx414_1 := (cf_ (p := ⟨gb413, 1, none⟩) hn414_1 (.string (⟨#[]⟩ : ByteArray))).trans hx414_1
          replace hx414_2 := (cf_ (p := ⟨gb413, 1, none⟩) hn414_1 (.string (⟨#[]⟩ : ByteArray))).trans hx414_2
          replace hx414_0 := (cf_ (p := ⟨gb413, 2, none⟩) hn414_2 (.int .i64 0)).trans hx414_0
          replace hx414_1 := (cf_ (p := ⟨gb413, 2, none⟩) hn414_2 (.int .i64 0)).trans hx414_1
          replace hx414_2 := (cf_ (p := ⟨gb413, 2, none⟩) hn414_2 (.int .i64 0)).trans hx414_2
          clear hn414_0
          clear hn414_1
          clear hn414_2
          replace p414 := eq_true p414
          replace q414 := eq_true q414
          have hnb37 := NB413_403.out
          have hnc37 := NB403_413.out
          obtain ⟨hcz38_0, hcz38_1, hcz38_2, hfz38_0, hfz38_1, hfz38_2⟩ := c3_ BK413
          go_wp2
          go_meet
          case rel => exact ⟨_, ((rd_T71 l0_0 t405).f0), ((rd_T71 l0_0 t405).f1), ((rd_T71 l0_0 t405).f2), H', ⟨by have := HJ5.out; have := HJ15.out; have := HJ17.out; have := HJ22.out; first | omega | exact Nat.le_refl _⟩, ⟨by refine bq_ ?_; refine blk_far ?_ NB402_413.out _; refine bq_ ?_; refine blk_far ?_ NB402_413.out _; refine bq_ ?_; refine blk_far ?_ NB402_413.out _; refine bq_ ?_; refine blk_far ?_ NB402_413.out _; refine bq_ ?_; refine blk_far ?_ NB402_413.out _; refine bq_ ?_; refine blk_far ?_ NB402_413.out _; refine bq_ ?_; exact BK402.out⟩, ⟨by refine bq_ ?_; refine blk_far ?_ NB403_413.out _; refine bq_ ?_; refine blk_far ?_ NB403_413.out _; refine bq_ ?_; refine blk_far ?_ NB403_413.out _; refine bq_ ?_; refine blk_far ?_ NB403_413.out _; refine bq_ ?_; refine blk_far ?_ NB403_413.out _; refine bq_ ?_; refine blk_far ?_ NB403_413.out _; refine bq_ ?_; exact BK403.out⟩, ⟨by refine bq_ ?_; refine blk_put (cs := #[.string ((rd_T71 l0_0 t405).f0), .string ((rd_T71 l0_0 t405).f1), .int .i64 0]) ?_ 2 _ rfl; refine bq_ ?_; refine blk_put (cs := #[.string ((rd_T71 l0_0 t405).f0), .string (⟨#[]⟩ : ByteArray), .int .i64 0]) ?_ 1 _ rfl; refine bq_ ?_; refine blk_put (cs := #[.string a1, .string (⟨#[]⟩ : ByteArray), .int .i64 0]) ?_ 0 _ rfl; refine bq_ ?_; refine blk_put (cs := #[.string a1, .string (⟨#[]⟩ : ByteArray), .int .i64 0]) ?_ 2 _ rfl; refine bq_ ?_; refine blk_put (cs := #[.string a1, .string (⟨#[]⟩ : ByteArray), .int .i64 0]) ?_ 1 _ rfl; refine bq_ ?_; refine blk_put (cs := #[.string (⟨#[]⟩ : ByteArray), .string (⟨#[]⟩ : ByteArray), .int .i64 0]) ?_ 0 _ rfl; refine bq_ ?_; exact BK413.out⟩, ⟨bl_3 HB GE402 GE403 GE413⟩⟩
         case rest =>
          clear HC26
          try clear c1
          try clear c2
          try clear p2
          try clear c3
          try clear p4
          try clear q4
          try clear hx4
          try clear c6
          try clear c7
          try clear c9
          try clear c14
          try clear c14b0
          try clear c14b1
          try clear c17
          try clear c19
          try clear c19b0
          try clear c19b1
          try clear c20
          try clear c20b0
          try clear c21
          try clear c24
          try clear c25
          try clear c25b0
          try clear c25b1
          try clear c28
          try clear c29
          try clear c31
          try clear c31b0
          try clear c32
          try clear c32b0
          try clear c33
          try clear c33b0
          try clear c34
          try clear c35
          try clear c37
          try clear hx414_0
          try clear hx414_1
          try clear hx414_2
          try clear p2
          try clear p414
          try clear q414
          obtain ⟨kq, x414000_25, x414001_25, x414002_25, HA, HJ25, BK402, BK403, BK413, HB⟩ := hcut
          cases kq with
          | zero => exact absurd HA.out (by simp [gafferref02_Add.j4])
          | succ kj25 =>
           have H := HA.out
           clear HA
           simp only [gafferref02_Add.j4] at H
           by_cases c39 : x414001_25.size + a2.size ≤ 9223372036854775807
           rotate_left
           ·rw [if_neg c39] at H
            exact absurd H (by simp)
           rw [if_pos c39] at H
           have c39b0 := eq_true c39
           have c39b1 : decide (x414001_25.size + a2.size ≤ 9223372036854775807) = true := decide_eq_true c39
           try have c39b2 : (9223372036854775807 < x414001_25.size + a2.size) = False := eq_false (Nat.not_lt.2 c39)
           clear c39
           obtain ⟨⟨t415, t418, t419⟩, A400, H⟩ := Option.bind_eq_some_iff.mp H
           try dsimp only at H
           have A40 := a_ A400
           clear A400
           obtain ⟨⟨t420, t423, t424, t425⟩, A410, H⟩ := Option.bind_eq_some_iff.mp H
           try dsimp only at H
           have A41 := a_ A410
           clear A410
           by_cases c42 : t425 = true
           ·subst c42
            have H1 : (some (t420, t423, t424, 0)) = some (r1, r2, r3, r4) := by rw [if_pos rfl] at H; exact H
            clear H
            have H := H1
            clear H1
            simp only [Option.some.injEq, Prod.mk.injEq] at H
            obtain ⟨rfl, rfl, rfl, rfl⟩ := H
            have hnb43 := NB413_402.out
            have hnc43 := NB402_413.out
            have hnb44 := NB413_403.out
            have hnc44 := NB403_413.out
            obtain ⟨hcz45_0, hcz45_1, hcz45_2, hfz45_0, hfz45_1, hfz45_2⟩ := c3_ BK413
            have hnb46 := NB402_403.out
            have hnc46 := NB403_402.out
            obtain ⟨hcz47_0, hcz47_1, hcz47_2, hfz47_0, hfz47_1, hfz47_2⟩ := c3_ BK402
            go_wp2_with (first | ((with_reducible refine gk_ 102 ?_); refine gl_ (some 61) Try.func102 #[.agg #[.slice A0_0 l0_0.length c0_0, .bool a0_1, .int .i64 a0_2], .agg #[.string x414000_25, .string (x414001_25 ++ a2), .int .i64 x414002_25]] ?_; (with_reducible refine (gafferref02_with.calls kj25 _ _ l0_0 a0_1 a0_2 x414000_25 (x414001_25 ++ a2) x414002_25 t415 t418 t419 _ ?side1 ?side2 A40.out).mono ?_); (case side1 => exact Kd.C_below HR0_0.out (bl_3 HB GE402 GE403 GE413)); (case side2 => exact HC0_0.out); rintro e w48 ⟨v416, rfl, ho0, hb⟩; refine ⟨_, rfl, ?_⟩; have HO417 := a_ (Kd.R_lower (Kd.R_newB ho0 (g := gb413) (o := .cells #[.string x414000_25, .string (x414001_25 ++ a2), .int .i64 x414002_25] 71 (0, 0)) (bp_0 BK413)) (below_size (bl_3 HB GE402 GE403 GE413))); replace BK402 := a_ (blk_below (g := gb402) (o := .cells #[.slice A0_0 l0_0.length c0_0, .bool a0_1, .int .i64 a0_2] 24 (0, 0)) (bp_1 BK402 NB402_413) hb); replace BK403 := a_ (blk_below (g := gb403) (o := .cells #[.slice none 0 0, .bool false, .int .i64 0] 24 (0, 0)) (bp_1 BK403 NB403_413) hb); replace BK413 := a_ (blk_below (g := gb413) (o := .cells #[.string x414000_25, .string (x414001_25 ++ a2), .int .i64 x414002_25] 71 (0, 0)) (bp_0 BK413) hb); replace HB := hB_ (bl_3 HB GE402 GE403 GE413) hb; (try clear hb); (try clear ho0); obtain ⟨Ao49, co49, eo49⟩ := Kd.R_slice HO417.out; subst eo49) | ((with_reducible refine gk_ 99 ?_); refine gl_ (some 62) Try.func99 #[.agg #[.slice Ao49 t415.length co49, .bool t418, .int .i64 t419]] ?_; (with_reducible refine (gafferref02_burnt.calls (fun k_ => some k_ = (.slice Ao49 t415.length co49 : Value).ownBlock) (.slice Ao49 t415.length co49) t415 t418 t419 t420 t423 t424 true w _ ?side1 ?side2 A41.out).mono ?_); (case side1 => repeat (first | (with_reducible first | exact HB.out | apply below_alloc | apply pw_below_drewN | apply below_drew1 | refine below_set ?_ GE402.out | refine below_set ?_ GE403.out | refine below_set ?_ GE413.out) | exact HB.out)); (case side2 => exact Kd.R_tight rfl HO417.out); rintro e w50 ⟨v421, rfl, ho0, hb, hkp⟩; refine ⟨_, rfl, ?_⟩; replace BK402 := a_ (blk_kept (bk_ BK402) hkp (fun hs_ => (fun e_ => (Kd.R_ne HO417.out BK402.out (by decide)) e_) hs_)); replace BK403 := a_ (blk_kept (bk_ BK403) hkp (fun hs_ => (fun e_ => (Kd.R_ne HO417.out BK403.out (by decide)) e_) hs_)); have HO422 := a_ (Kd.R_mono (ok' := fun k_ => k_ ≠ gb413) ho0 (fun k_ hk_ => Or.elim hk_ (fun hs_ => fun e_ => (Kd.R_away HO417.out (fun _ hk => hk.2)) (by rw [← e_]; exact hs_)) (fun hn_ => (Kd.freshB (g := gb413) (o := .cells #[.string x414000_25, .string (x414001_25 ++ a2), .int .i64 x414002_25] 71 (0, 0)) (bk_ BK413) k_ hn_)))); replace BK413 := a_ (blk_kept (bk_ BK413) hkp (fun hs_ => (fun e_ => (Kd.R_away HO417.out (fun _ hk => hk.2)) e_) hs_)); replace HB := a_ (hb); clear HO417; (try clear hb); (try clear hkp); (try clear ho0)) | ((with_reducible refine gd_ 11 ?_); (try (refine gate_guard (by rfl) ?_; dsimp only)); refine bx_ 11 #[.slice none 0 0, .bool false, .int .i64 0] 24 ?_; intro gb426 hg w51 hbox hb; replace HO422 := a_ (Kd.R_below (by refine rq_ ?_; exact HO422.out) hb); have BK426 := a_ (hbox); have GE426 := a_ (bs_3 hg HB GE402 GE403 GE413); replace HB := hB_ (bl_3 HB GE402 GE403 GE413) hb; have NB402_426 := nB_ hg BK402; have NB426_402 := nC_ hg BK402; replace BK402 := bB_ BK402 hb; have NB403_426 := nB_ hg BK403; have NB426_403 := nC_ hg BK403; replace BK403 := bB_ BK403 hb; have NB413_426 := nB_ hg BK413; have NB426_413 := nC_ hg BK413; replace BK413 := bB_ BK413 hb; clear hb hbox hg; obtain ⟨Ao52, co52, eo52⟩ := Kd.R_slice HO422.out; subst eo52; have hnb53 := NB426_402.out; have hnc53 := NB402_426.out; have hnb54 := NB426_403.out; have hnc54 := NB403_426.out; have hnb55 := NB426_413.out; have hnc55 := NB413_426.out; obtain ⟨hcz56_0, hcz56_1, hcz56_2, hfz56_0, hfz56_1, hfz56_2⟩ := c3_ BK426; obtain ⟨hcz57_0, hcz57_1, hcz57_2, hfz57_0, hfz57_1, hfz57_2⟩ := c3_ BK403))
            refine bodyPost_ret (results_ct rfl _ _ gb403 24 #[.slice Ao52 t420.length co52, .bool t423, .int .i64 t424] (0, 0) _ rfl (bp_1 BK403 NB403_426) Try.underlying24 rfl (by kernel_rfl)) rfl ?_
            exact ⟨_, fz_, by refine rq_ ?_; exact Kd.R_mono (Kd.R_far (p := ⟨gb403, 2, none⟩) (Kd.R_far (p := ⟨gb403, 1, none⟩) (Kd.R_far (p := ⟨gb403, 0, none⟩) (Kd.R_far (p := ⟨gb426, 2, none⟩) (Kd.R_far (p := ⟨gb426, 1, none⟩) (Kd.R_far (p := ⟨gb426, 0, none⟩) (Kd.R_types (Kd.R_types HO422.out BK426.out (by decide)) BK403.out (by decide)) (fun _ hk => hk.1.2) (.slice Ao52 t420.length co52)) (fun _ hk => hk.1.2) (.bool t423)) (fun _ hk => hk.1.2) (.int .i64 t424)) (fun _ hk => hk.2) (.slice Ao52 t420.length co52)) (fun _ hk => hk.2) (.bool t423)) (fun _ hk => hk.2) (.int .i64 t424)) (fun _ hk => trivial), bl_4 HB GE402 GE403 GE413 GE426⟩
           replace c42 := Bool.eq_false_iff.mpr c42
           subst c42
           have H1 : (some (t420, t423, t424, 8)) = some (r1, r2, r3, r4) := by rw [if_neg (show ¬ (false = true) by decide)] at H; exact H
           clear H
           have H := H1
           clear H1
           simp only [Option.some.injEq, Prod.mk.injEq] at H
           obtain ⟨rfl, rfl, rfl, rfl⟩ := H
           have hnb58 := NB413_402.out
           have hnc58 := NB402_413.out
           have hnb59 := NB413_403.out
           have hnc59 := NB403_413.out
           obtain ⟨hcz60_0, hcz60_1, hcz60_2, hfz60_0, hfz60_1, hfz60_2⟩ := c3_ BK413
           have hnb61 := NB402_403.out
           have hnc61 := NB403_402.out
           obtain ⟨hcz62_0, hcz62_1, hcz62_2, hfz62_0, hfz62_1, hfz62_2⟩ := c3_ BK402
           go_wp2_with (first | ((with_reducible refine gk_ 102 ?_); refine gl_ (some 61) Try.func102 #[.agg #[.slice A0_0 l0_0.length c0_0, .bool a0_1, .int .i64 a0_2], .agg #[.string x414000_25, .string (x414001_25 ++ a2), .int .i64 x414002_25]] ?_; (with_reducible refine (gafferref02_with.calls kj25 _ _ l0_0 a0_1 a0_2 x414000_25 (x414001_25 ++ a2) x414002_25 t415 t418 t419 _ ?side1 ?side2 A40.out).mono ?_); (case side1 => exact Kd.C_below HR0_0.out (bl_3 HB GE402 GE403 GE413)); (case side2 => exact HC0_0.out); rintro e w63 ⟨v416, rfl, ho0, hb⟩; refine ⟨_, rfl, ?_⟩; have HO417 := a_ (Kd.R_lower (Kd.R_newB ho0 (g := gb413) (o := .cells #[.string x414000_25, .string (x414001_25 ++ a2), .int .i64 x414002_25] 71 (0, 0)) (bp_0 BK413)) (below_size (bl_3 HB GE402 GE403 GE413))); replace BK402 := a_ (blk_below (g := gb402) (o := .cells #[.slice A0_0 l0_0.length c0_0, .bool a0_1, .int .i64 a0_2] 24 (0, 0)) (bp_1 BK402 NB402_413) hb); replace BK403 := a_ (blk_below (g := gb403) (o := .cells #[.slice none 0 0, .bool false, .int .i64 0] 24 (0, 0)) (bp_1 BK403 NB403_413) hb); replace BK413 := a_ (blk_below (g := gb413) (o := .cells #[.string x414000_25, .string (x414001_25 ++ a2), .int .i64 x414002_25] 71 (0, 0)) (bp_0 BK413) hb); replace HB := hB_ (bl_3 HB GE402 GE403 GE413) hb; (try clear hb); (try clear ho0); obtain ⟨Ao64, co64, eo64⟩ := Kd.R_slice HO417.out; subst eo64) | ((with_reducible refine gk_ 99 ?_); refine gl_ (some 62) Try.func99 #[.agg #[.slice Ao64 t415.length co64, .bool t418, .int .i64 t419]] ?_; (with_reducible refine (gafferref02_burnt.calls (fun k_ => some k_ = (.slice Ao64 t415.length co64 : Value).ownBlock) (.slice Ao64 t415.length co64) t415 t418 t419 t420 t423 t424 false w _ ?side1 ?side2 A41.out).mono ?_); (case side1 => repeat (first | (with_reducible first | exact HB.out | apply below_alloc | apply pw_below_drewN | apply below_drew1 | refine below_set ?_ GE402.out | refine below_set ?_ GE403.out | refine below_set ?_ GE413.out) | exact HB.out)); (case side2 => exact Kd.R_tight rfl HO417.out); rintro e w65 ⟨v421, rfl, ho0, hb, hkp⟩; refine ⟨_, rfl, ?_⟩; replace BK402 := a_ (blk_kept (bk_ BK402) hkp (fun hs_ => (fun e_ => (Kd.R_ne HO417.out BK402.out (by decide)) e_) hs_)); replace BK403 := a_ (blk_kept (bk_ BK403) hkp (fun hs_ => (fun e_ => (Kd.R_ne HO417.out BK403.out (by decide)) e_) hs_)); have HO422 := a_ (Kd.R_mono (ok' := fun k_ => k_ ≠ gb413) ho0 (fun k_ hk_ => Or.elim hk_ (fun hs_ => fun e_ => (Kd.R_away HO417.out (fun _ hk => hk.2)) (by rw [← e_]; exact hs_)) (fun hn_ => (Kd.freshB (g := gb413) (o := .cells #[.string x414000_25, .string (x414001_25 ++ a2), .int .i64 x414002_25] 71 (0, 0)) (bk_ BK413) k_ hn_)))); replace BK413 := a_ (blk_kept (bk_ BK413) hkp (fun hs_ => (fun e_ => (Kd.R_away HO417.out (fun _ hk => hk.2)) e_) hs_)); replace HB := a_ (hb); clear HO417; (try clear hb); (try clear hkp); (try clear ho0)) | ((with_reducible refine gd_ 11 ?_); (try (refine gate_guard (by rfl) ?_; dsimp only)); refine bx_ 11 #[.slice none 0 0, .bool false, .int .i64 0] 24 ?_; intro gb426 hg w66 hbox hb; replace HO422 := a_ (Kd.R_below (by refine rq_ ?_; exact HO422.out) hb); have BK426 := a_ (hbox); have GE426 := a_ (bs_3 hg HB GE402 GE403 GE413); replace HB := hB_ (bl_3 HB GE402 GE403 GE413) hb; have NB402_426 := nB_ hg BK402; have NB426_402 := nC_ hg BK402; replace BK402 := bB_ BK402 hb; have NB403_426 := nB_ hg BK403; have NB426_403 := nC_ hg BK403; replace BK403 := bB_ BK403 hb; have NB413_426 := nB_ hg BK413; have NB426_413 := nC_ hg BK413; replace BK413 := bB_ BK413 hb; clear hb hbox hg; obtain ⟨Ao67, co67, eo67⟩ := Kd.R_slice HO422.out; subst eo67; have hnb68 := NB426_402.out; have hnc68 := NB402_426.out; have hnb69 := NB426_403.out; have hnc69 := NB403_426.out; have hnb70 := NB426_413.out; have hnc70 := NB413_426.out; obtain ⟨hcz71_0, hcz71_1, hcz71_2, hfz71_0, hfz71_1, hfz71_2⟩ := c3_ BK426; obtain ⟨hcz72_0, hcz72_1, hcz72_2, hfz72_0, hfz72_1, hfz72_2⟩ := c3_ BK403))
           refine bodyPost_ret (results_ct rfl _ _ gb403 24 #[.slice Ao67 t420.length co67, .bool t423, .int .i64 t424] (0, 0) _ rfl (bp_1 BK403 NB403_426) Try.underlying24 rfl (by kernel_rfl)) rfl ?_
           exact ⟨_, fz_, by refine rq_ ?_; exact Kd.R_mono (Kd.R_far (p := ⟨gb403, 2, none⟩) (Kd.R_far (p := ⟨gb403, 1, none⟩) (Kd.R_far (p := ⟨gb403, 0, none⟩) (Kd.R_far (p := ⟨gb426, 2, none⟩) (Kd.R_far (p := ⟨gb426, 1, none⟩) (Kd.R_far (p := ⟨gb426, 0, none⟩) (Kd.R_types (Kd.R_types HO422.out BK426.out (by decide)) BK403.out (by decide)) (fun _ hk => hk.1.2) (.slice Ao67 t420.length co67)) (fun _ hk => hk.1.2) (.bool t423)) (fun _ hk => hk.1.2) (.int .i64 t424)) (fun _ hk => hk.2) (.slice Ao67 t420.length co67)) (fun _ hk => hk.2) (.bool t423)) (fun _ hk => hk.2) (.int .i64 t424)) (fun _ hk => trivial), bl_4 HB GE402 GE403 GE413 GE426⟩end Go.Proofs.Ytpigjmjbfpipnaa.PD
