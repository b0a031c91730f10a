-- By a program of this session.
import Derived.Test.YtpigjmjbfpipnaaPDx0
import Derived.Test.YtpigjmjbfpipnaaPDx6
import Derived.Test.YtpigjmjbfpipnaaPDx7
import Derived.Test.YtpigjmjbfpipnaaPDx8
namespace Go.Proofs.Ytpigjmjbfpipnaa.PD
open Go.RowKit YtpigjmjbfpipnaaW.PrintWords YtpigjmjbfpipnaaW.PrintLast YtpigjmjbfpipnaaW.PrintMore Sh Ytpigjmjbfpipnaa.Op
attribute [local go_sem] max2_int min2_int max_two min_two max_three min_three max_four min_four
set_option linter.unusedVariables false
set_option maxHeartbeats 80000000
set_option maxRecDepth 100000
set_option linter.unusedSimpArgs false

def gafferref04_Load.j0 : Nat → ByteArray → Int → Int → Bool → Option (Int × Int × Int)
 | 0, _, _, _, _ => none
 | k + 1, x4, x9, x11, x58 => if x58 = true then (some (0, 0, 4)) else ((gafferref04_file.f k x9 (wrap64 (x11))).bind fun t223 => (if t223.toList = x4.toList then (some (x9, wrap64 (x11), 0)) else (some (0, 0, 4))))
def gafferref04_Load.f (k : Nat) (l0_0 : List (S71)) (a0_1 : Bool) (a0_2 : Int) : Option (Int × Int × Int) := (gafferref02_Read.f k l0_0 a0_1 a0_2 (⟨#[104, 97, 114, 100]⟩ : ByteArray)).bind fun bt211 => (if bt211.2 = 6 then (some (0, 0, 0)) else (if bt211.2 = 0 then ((gafferref01_TakeFrame.f k bt211.1).bind fun bt213 => ((gafferref01_TakeNumber.f k bt213.1).bind fun bt216 => ((gafferref01_TakeNumber.f k bt216.2.1).bind fun bt219 => (if bt213.2.2 = 0 then (if bt216.2.2 = 0 then (if bt219.2.2 = 0 then (gafferref04_Load.j0 k bt211.1 bt216.1 bt219.1 (decide (bt219.1 > 7))) else (gafferref04_Load.j0 k bt211.1 bt216.1 bt219.1 true)) else (gafferref04_Load.j0 k bt211.1 bt216.1 bt219.1 true)) else (gafferref04_Load.j0 k bt211.1 bt216.1 bt219.1 true))))) else (some (0, 0, bt211.2))))
theorem gafferref04_Load.mono_l : ∀ k, (∀ y0 y1 y2 y3, LeO (gafferref04_Load.j0 k y0 y1 y2 y3) (gafferref04_Load.j0 (k + 1) y0 y1 y2 y3))
 | 0 => fun _ _ _ _ r h => by simp [gafferref04_Load.j0] at h
 | k + 1 => by
  have ih0 := gafferref04_Load.mono_l k
  ·intro y0 y1 y2 y3
   unfold gafferref04_Load.j0
   repeat' with_reducible first | apply ih0 | apply gafferref01_TakeFrame.mono | apply gafferref01_TakeNumber.mono | apply gafferref02_Read.mono | apply gafferref04_file.mono | apply LeO.refl | apply LeO.none | apply LeO.ite | refine LeO.bind ?_ (fun _ => ?_)
theorem gafferref04_Load.mono : ∀ a0 a1 a2 k, LeO (gafferref04_Load.f k a0 a1 a2) (gafferref04_Load.f (k + 1) a0 a1 a2) := by
 intro a0 a1 a2 k
 have ih0 := gafferref04_Load.mono_l k
 unfold gafferref04_Load.f
 repeat' with_reducible first | apply ih0 | apply gafferref01_TakeFrame.mono | apply gafferref01_TakeNumber.mono | apply gafferref02_Read.mono | apply gafferref04_file.mono | apply LeO.refl | apply LeO.none | apply LeO.ite | refine LeO.bind ?_ (fun _ => ?_)
theorem gafferref04_Load.calls (k : Nat) (A0_0 : Option Addr) (c0_0 : Nat) (l0_0 : List (S71)) (a0_1 : Bool) (a0_2 : Int) (r1 : Int) (r2 : Int) (r3 : Int) (w : World) (hr0_0 : Kd.C k71 w A0_0 l0_0.length l0_0) (hc0_0 : l0_0.length ≤ c0_0) (h : gafferref04_Load.f k l0_0 a0_1 a0_2 = some (r1, r2, r3)) :
  Calls Try.prog 16 #[.agg #[.slice A0_0 l0_0.length c0_0, .bool a0_1, .int .i64 a0_2]] w fun e w' => e = .returned (.tuple #[.agg #[.int .u64 r1, .int .i64 r2], .int .i64 r3]) ∧ Below w.heap.size w w' := by
 have hu24 := Try.underlying24
 have hu27 := Try.underlying27
 have HR0_0 := a_ hr0_0
 have HC0_0 := a_ hc0_0
 clear hr0_0 hc0_0
 have HB := a_ (Below.refl w.heap.size w)
 have H : ((gafferref02_Read.f k l0_0 a0_1 a0_2 (⟨#[104, 97, 114, 100]⟩ : ByteArray)).bind fun bt211 => (if bt211.2 = 6 then (some (0, 0, 0)) else (if bt211.2 = 0 then ((gafferref01_TakeFrame.f k bt211.1).bind fun bt213 => ((gafferref01_TakeNumber.f k bt213.1).bind fun bt216 => ((gafferref01_TakeNumber.f k bt216.2.1).bind fun bt219 => (if bt213.2.2 = 0 then (if bt216.2.2 = 0 then (if bt219.2.2 = 0 then (gafferref04_Load.j0 k bt211.1 bt216.1 bt219.1 (decide (bt219.1 > 7))) else (gafferref04_Load.j0 k bt211.1 bt216.1 bt219.1 true)) else (gafferref04_Load.j0 k bt211.1 bt216.1 bt219.1 true)) else (gafferref04_Load.j0 k bt211.1 bt216.1 bt219.1 true))))) else (some (0, 0, bt211.2))))) = some (r1, r2, r3) := h
 clear h
 obtain ⟨⟨t211, t212⟩, A20, H⟩ := Option.bind_eq_some_iff.mp H
 try dsimp only at H
 have A2 := a_ A20
 clear A20
 by_cases c3 : t212 = 6
 ·rw [if_pos c3] at H
  have c3b0 : (t212 == 6) = true := beq_iff_eq.mpr c3
  have c3b1 : (t212 != 6) = false := bne_eq_false_iff_eq.mpr c3
  clear c3
  simp only [Option.some.injEq, Prod.mk.injEq] at H
  obtain ⟨rfl, rfl, rfl⟩ := H
  go_enter Try.func16, Try.ntmps16
  go_wp2_with (first | ((with_reducible refine gd_ 1 ?_); refine bx_ 1 #[.slice A0_0 l0_0.length c0_0, .bool a0_1, .int .i64 a0_2] 24 ?_; intro gb209 hg w4 hbox hb; have BK209 := a_ (hbox); have GE209 := a_ (bs_0 hg HB); replace HB := hB_ (bl_ HB) hb; clear hb hbox hg) | ((with_reducible refine gd_ 2 ?_); refine bx_ 2 #[.int .u64 0, .int .i64 0] 27 ?_; intro gb210 hg w5 hbox hb; have BK210 := a_ (hbox); have GE210 := a_ (bs_1 hg HB GE209); replace HB := hB_ (bl_1 HB GE209) hb; have NB209_210 := nB_ hg BK209; have NB210_209 := nC_ hg BK209; replace BK209 := bB_ BK209 hb; clear hb hbox hg; have hnb6 := NB209_210.out; have hnc6 := NB210_209.out; obtain ⟨hcz7_0, hcz7_1, hcz7_2, hfz7_0, hfz7_1, hfz7_2⟩ := c3_ BK209) | ((with_reducible refine gk_ 41 ?_); refine gl_ (some 17) Try.func41 #[.agg #[.slice A0_0 l0_0.length c0_0, .bool a0_1, .int .i64 a0_2], .string (⟨#[104, 97, 114, 100]⟩ : ByteArray)] ?_; (with_reducible refine (gafferref02_Read.calls k _ _ l0_0 a0_1 a0_2 (⟨#[104, 97, 114, 100]⟩ : ByteArray) t211 t212 _ ?side1 ?side2 A2.out).mono ?_); (case side1 => exact cl_ (Kd.C_below HR0_0.out HB.out)); (case side2 => exact HC0_0.out); rintro e w8 ⟨rfl, hb⟩; refine ⟨_, rfl, ?_⟩; replace BK209 := bB_ BK209 hb; replace BK210 := bB_ BK210 hb; replace HB := hB_ (bl_2 HB GE209 GE210) hb; (try clear hb); obtain ⟨hcz9_0, hcz9_1, hfz9_0, hfz9_1⟩ := c2_ BK210))
  refine bodyPost_ret (results_ct rfl _ _ gb210 27 #[.int .u64 0, .int .i64 0] (0, 0) _ rfl (bp_0 BK210) Try.underlying27 rfl (by kernel_rfl)) rfl ?_
  exact ⟨fz_, bl_2 HB GE209 GE210⟩
 rw [if_neg c3] at H
 have c3b0 : (t212 == 6) = false := beq_eq_false_iff_ne.mpr c3
 have c3b1 : (t212 != 6) = true := bne_iff_ne.mpr c3
 by_cases c10 : t212 = 0
 rotate_left
 ·rw [if_neg c10] at H
  have c10b0 : (t212 == 0) = false := beq_eq_false_iff_ne.mpr c10
  have c10b1 : (t212 != 0) = true := bne_iff_ne.mpr c10
  simp only [Option.some.injEq, Prod.mk.injEq] at H
  obtain ⟨rfl, rfl, rfl⟩ := H
  go_enter Try.func16, Try.ntmps16
  go_wp2_with (first | ((with_reducible refine gd_ 1 ?_); refine bx_ 1 #[.slice A0_0 l0_0.length c0_0, .bool a0_1, .int .i64 a0_2] 24 ?_; intro gb209 hg w44 hbox hb; have BK209 := a_ (hbox); have GE209 := a_ (bs_0 hg HB); replace HB := hB_ (bl_ HB) hb; clear hb hbox hg) | ((with_reducible refine gd_ 2 ?_); refine bx_ 2 #[.int .u64 0, .int .i64 0] 27 ?_; intro gb210 hg w45 hbox hb; have BK210 := a_ (hbox); have GE210 := a_ (bs_1 hg HB GE209); replace HB := hB_ (bl_1 HB GE209) hb; have NB209_210 := nB_ hg BK209; have NB210_209 := nC_ hg BK209; replace BK209 := bB_ BK209 hb; clear hb hbox hg; have hnb46 := NB209_210.out; have hnc46 := NB210_209.out; obtain ⟨hcz47_0, hcz47_1, hcz47_2, hfz47_0, hfz47_1, hfz47_2⟩ := c3_ BK209) | ((with_reducible refine gk_ 41 ?_); refine gl_ (some 17) Try.func41 #[.agg #[.slice A0_0 l0_0.length c0_0, .bool a0_1, .int .i64 a0_2], .string (⟨#[104, 97, 114, 100]⟩ : ByteArray)] ?_; (with_reducible refine (gafferref02_Read.calls k _ _ l0_0 a0_1 a0_2 (⟨#[104, 97, 114, 100]⟩ : ByteArray) t211 t212 _ ?side1 ?side2 A2.out).mono ?_); (case side1 => exact cl_ (Kd.C_below HR0_0.out HB.out)); (case side2 => exact HC0_0.out); rintro e w48 ⟨rfl, hb⟩; refine ⟨_, rfl, ?_⟩; replace BK209 := bB_ BK209 hb; replace BK210 := bB_ BK210 hb; replace HB := hB_ (bl_2 HB GE209 GE210) hb; (try clear hb); obtain ⟨hcz49_0, hcz49_1, hfz49_0, hfz49_1⟩ := c2_ BK210))
  refine bodyPost_ret (results_ct rfl _ _ gb210 27 #[.int .u64 0, .int .i64 0] (0, 0) _ rfl (bp_0 BK210) Try.underlying27 rfl (by kernel_rfl)) rfl ?_
  exact ⟨fz_, bl_2 HB GE209 GE210⟩


 rw [if_pos c10] at H
 have c10b0 : (t212 == 0) = true := beq_iff_eq.mpr c10
 have c10b1 : (t212 != 0) = false := bne_eq_false_iff_eq.mpr c10
 clear c10
 obtain ⟨⟨t213, t214, t215⟩, A110, H⟩ := Option.bind_eq_some_iff.mp H
 try dsimp only at H
 have A11 := a_ A110
 clear A110
 obtain ⟨⟨t216, t217, t218⟩, A120, H⟩ := Option.bind_eq_some_iff.mp H
 try dsimp only at H
 have A12 := a_ A120
 clear A120
 obtain ⟨⟨t219, t220, t221⟩, A130, H⟩ := Option.bind_eq_some_iff.mp H
 try dsimp only at H
 have A13 := a_ A130
 clear A130
 have HC14 := a_ H
 clear H
 go_enter Try.func16, Try.ntmps16
 go_upto_region 9 with (first | ((with_reducible refine gd_ 1 ?_); refine bx_ 1 #[.slice A0_0 l0_0.length c0_0, .bool a0_1, .int .i64 a0_2] 24 ?_; intro gb209 hg w15 hbox hb; have BK209 := a_ (hbox); have GE209 := a_ (bs_0 hg HB); replace HB := hB_ (bl_ HB) hb; clear hb hbox hg) | ((with_reducible refine gd_ 2 ?_); refine bx_ 2 #[.int .u64 0, .int .i64 0] 27 ?_; intro gb210 hg w16 hbox hb; have BK210 := a_ (hbox); have GE210 := a_ (bs_1 hg HB GE209); replace HB := hB_ (bl_1 HB GE209) hb; have NB209_210 := nB_ hg BK209; have NB210_209 := nC_ hg BK209; replace BK209 := bB_ BK209 hb; clear hb hbox hg; have hnb17 := NB209_210.out; have hnc17 := NB210_209.out; obtain ⟨hcz18_0, hcz18_1, hcz18_2, hfz18_0, hfz18_1, hfz18_2⟩ := c3_ BK209) | ((with_reducible refine gk_ 41 ?_); refine gl_ (some 17) Try.func41 #[.agg #[.slice A0_0 l0_0.length c0_0, .bool a0_1, .int .i64 a0_2], .string (⟨#[104, 97, 114, 100]⟩ : ByteArray)] ?_; (with_reducible refine (gafferref02_Read.calls k _ _ l0_0 a0_1 a0_2 (⟨#[104, 97, 114, 100]⟩ : ByteArray) t211 t212 _ ?side1 ?side2 A2.out).mono ?_); (case side1 => exact cl_ (Kd.C_below HR0_0.out HB.out)); (case side2 => exact HC0_0.out); rintro e w19 ⟨rfl, hb⟩; refine ⟨_, rfl, ?_⟩; replace BK209 := bB_ BK209 hb; replace BK210 := bB_ BK210 hb; replace HB := hB_ (bl_2 HB GE209 GE210) hb; (try clear hb)) | ((with_reducible refine gk_ 42 ?_); refine gl_ (some 29) Try.func42 #[.string t211] ?_; (with_reducible refine (gafferref01_TakeFrame.calls k t211 t213 t214 t215 _ A11.out).mono ?_); rintro e w20 ⟨rfl, hb⟩; refine ⟨_, rfl, ?_⟩; replace BK209 := bB_ BK209 hb; replace BK210 := bB_ BK210 hb; replace HB := hB_ (bl_2 HB GE209 GE210) hb; (try clear hb)) | ((with_reducible refine gk_ 43 ?_); refine gl_ (some 35) Try.func43 #[.string t213] ?_; (with_reducible refine (gafferref01_TakeNumber.calls k t213 t216 t217 t218 _ A12.out).mono ?_); rintro e w' ⟨rfl, ⟨nd, rfl⟩⟩; refine ⟨_, rfl, ?_⟩) | ((with_reducible refine gk_ 43 ?_); refine gl_ (some 41) Try.func43 #[.string t217] ?_; (with_reducible refine (gafferref01_TakeNumber.calls k t217 t219 t220 t221 _ A13.out).mono ?_); rintro e w' ⟨rfl, ⟨nd, rfl⟩⟩; refine ⟨_, rfl, ?_⟩))
 (try simp only [Act.put, List.setIfInBounds_toArray, List.set_cons_zero, List.set_cons_succ])
 go_cut [58] (fun v58 wc => ∃ (kq : Nat) (x58_13 : Bool), v58 = .bool x58_13 ∧ Aside0 (gafferref04_Load.j0 kq t211 t216 t219 x58_13 = some (r1, r2, r3)) ∧ Aside0 (kq ≤ k) ∧ Aside0 (wc.heap[gb209]? = some (.cells #[(.slice A0_0 l0_0.length c0_0), .bool a0_1, .int .i64 a0_2] 24 (0, 0))) ∧ Aside0 (wc.heap[gb210]? = some (.cells #[.int .u64 0, .int .i64 0] 27 (0, 0))) ∧ Aside0 (Below w.heap.size w wc))
 case first =>
  have H := HC14.out
  clear HC14
  by_cases c21 : t215 = 0
  rotate_left
  ·rw [if_neg c21] at H
   have c21b0 : (t215 == 0) = false := beq_eq_false_iff_ne.mpr c21
   have c21b1 : (t215 != 0) = true := bne_iff_ne.mpr c21
   (first | rw [c21b0] | (simp only [i64_w, i32_w]; rw [c21b0]) | skip)
   have H' := a_ H
   clear H
   go_wp2
   go_meet
   case rel => exact ⟨_, (true), fz_, H', ⟨by first | omega | exact Nat.le_refl _⟩, ⟨bk_ BK209⟩, ⟨bk_ BK210⟩, ⟨bl_2 HB GE209 GE210⟩⟩
  rw [if_pos c21] at H
  have c21b0 : (t215 == 0) = true := beq_iff_eq.mpr c21
  have c21b1 : (t215 != 0) = false := bne_eq_false_iff_eq.mpr c21
  clear c21
  (first | rw [c21b0] | (simp only [i64_w, i32_w]; rw [c21b0]) | skip)
  by_cases c22 : t218 = 0
  rotate_left
  ·rw [if_neg c22] at H
   have c22b0 : (t218 == 0) = false := beq_eq_false_iff_ne.mpr c22
   have c22b1 : (t218 != 0) = true := bne_iff_ne.mpr c22
   have H' := a_ H
   clear H
   go_wp2
   go_meet
   case rel => exact ⟨_, (true), fz_, H', ⟨by first | omega | exact Nat.le_refl _⟩, ⟨bk_ BK209⟩, ⟨bk_ BK210⟩, ⟨bl_2 HB GE209 GE210⟩⟩
  rw [if_pos c22] at H
  have c22b0 : (t218 == 0) = true := beq_iff_eq.mpr c22
  have c22b1 : (t218 != 0) = false := bne_eq_false_iff_eq.mpr c22
  clear c22
  by_cases c23 : t221 = 0
  rotate_left
  ·rw [if_neg c23] at H
   have c23b0 : (t221 == 0) = false := beq_eq_false_iff_ne.mpr c23
   have c23b1 : (t221 != 0) = true := bne_iff_ne.mpr c23
   have H' := a_ H
   clear H
   go_wp2
   go_meet
   case rel => exact ⟨_, (true), fz_, H', ⟨by first | omega | exact Nat.le_refl _⟩, ⟨bk_ BK209⟩, ⟨bk_ BK210⟩, ⟨bl_2 HB GE209 GE210⟩⟩
  rw [if_pos c23] at H
  have c23b0 : (t221 == 0) = true := beq_iff_eq.mpr c23
  have c23b1 : (t221 != 0) = false := bne_eq_false_iff_eq.mpr c23
  clear c23
  have H' := a_ H
  clear H
  go_wp2
  go_meet
  case rel => exact ⟨_, (decide (t219 > 7)), fz_, H', ⟨by first | omega | exact Nat.le_refl _⟩, ⟨bk_ BK209⟩, ⟨bk_ BK210⟩, ⟨bl_2 HB GE209 GE210⟩⟩
 case rest =>
  clear HC14
  try clear c1
  try clear c2
  try clear p2
  try clear c3
  try clear c3b0
  try clear c3b1
  try clear c4
  try clear c6
  try clear c10
  try clear c10b0
  try clear c10b1
  try clear c16
  try clear c17
  try clear c21
  try clear c21b0
  try clear c21b1
  try clear c22
  try clear c22b0
  try clear c22b1
  try clear c23
  try clear c23b0
  try clear c23b1
  obtain ⟨kq, x58_13, rfl, HA, HJ13, BK209, BK210, HB⟩ := hcut
  cases kq with
  | zero => exact absurd HA.out (by simp [gafferref04_Load.j0])
  | succ kj13 =>
   have H := HA.out
   clear HA
   simp only [gafferref04_Load.j0] at H
   by_cases c24 : x58_13 = true
   ·subst c24
    have H1 : (some (0, 0, 4)) = some (r1, r2, r3) := by rw [if_pos rfl] at H; exact H
    clear H
    have H := H1
    clear H1
    simp only [Option.some.injEq, Prod.mk.injEq] at H
    obtain ⟨rfl, rfl, rfl⟩ := H
    have hnb25 := NB210_209.out
    have hnc25 := NB209_210.out
    obtain ⟨hcz26_0, hcz26_1, hfz26_0, hfz26_1⟩ := c2_ BK210
    go_wp2
    refine bodyPost_ret (results_ct rfl _ _ gb210 27 #[.int .u64 0, .int .i64 0] (0, 0) _ rfl (bp_0 BK210) Try.underlying27 rfl (by kernel_rfl)) rfl ?_
    exact ⟨fz_, bl_2 HB GE209 GE210⟩
   replace c24 := Bool.eq_false_iff.mpr c24
   subst c24
   have H1 : ((gafferref04_file.f kj13 t216 (wrap64 (t219))).bind fun t223 => (if t223.toList = t211.toList then (some (t216, wrap64 (t219), 0)) else (some (0, 0, 4)))) = some (r1, r2, r3) := by rw [if_neg (show ¬ (false = true) by decide)] at H; exact H
   clear H
   have H := H1
   clear H1
   obtain ⟨t223, A270, H⟩ := Option.bind_eq_some_iff.mp H
   try dsimp only at H
   have A27 := a_ A270
   clear A270
   by_cases c28 : t223.toList = t211.toList
   rotate_left
   ·rw [if_neg c28] at H
    have c28b0 : (t223.toList == t211.toList) = false := beq_eq_false_iff_ne.mpr c28
    have c28b1 : (t223.toList != t211.toList) = true := bne_iff_ne.mpr c28
    simp only [Option.some.injEq, Prod.mk.injEq] at H
    obtain ⟨rfl, rfl, rfl⟩ := H
    go_wp2_with (first | ((with_reducible refine gd_ 14 ?_); refine bx_ 14 #[.int .u64 0, .int .i64 0] 27 ?_; intro gb222 hg w37 hbox hb; have BK222 := a_ (hbox); have GE222 := a_ (bs_2 hg HB GE209 GE210); replace HB := hB_ (bl_2 HB GE209 GE210) hb; have NB209_222 := nB_ hg BK209; have NB222_209 := nC_ hg BK209; replace BK209 := bB_ BK209 hb; have NB210_222 := nB_ hg BK210; have NB222_210 := nC_ hg BK210; replace BK210 := bB_ BK210 hb; clear hb hbox hg; have hnb38 := NB222_209.out; have hnc38 := NB209_222.out; have hnb39 := NB222_210.out; have hnc39 := NB210_222.out; obtain ⟨hcz40_0, hcz40_1, hfz40_0, hfz40_1⟩ := c2_ BK222) | ((with_reducible refine gk_ 44 ?_); refine gl_ (some 65) Try.func44 #[.agg #[.int .u64 t216, .int .i64 (wrap64 (t219))]] ?_; (with_reducible refine (gafferref04_file.calls kj13 t216 (wrap64 (t219)) t223 _ A27.out).mono ?_); rintro e w41 ⟨rfl, hb⟩; refine ⟨_, rfl, ?_⟩; replace BK209 := a_ (blk_below (g := gb209) (o := .cells #[.slice A0_0 l0_0.length c0_0, .bool a0_1, .int .i64 a0_2] 24 (0, 0)) (bp_1 BK209 NB209_222) hb); replace BK210 := a_ (blk_below (g := gb210) (o := .cells #[.int .u64 0, .int .i64 0] 27 (0, 0)) (bp_1 BK210 NB210_222) hb); replace BK222 := a_ (blk_below (g := gb222) (o := .cells #[.int .u64 t216, .int .i64 (wrap64 (t219))] 27 (0, 0)) (bp_0 BK222) hb); replace HB := hB_ (bl_3 HB GE209 GE210 GE222) hb; (try clear hb); have hnb42 := NB210_209.out; have hnc42 := NB209_210.out; obtain ⟨hcz43_0, hcz43_1, hfz43_0, hfz43_1⟩ := c2_ BK210))
    refine bodyPost_ret (results_ct rfl _ _ gb210 27 #[.int .u64 0, .int .i64 0] (0, 0) _ rfl (bp_0 BK210) Try.underlying27 rfl (by kernel_rfl)) rfl ?_
    exact ⟨fz_, bl_3 HB GE209 GE210 GE222⟩
   rw [if_pos c28] at H
   have c28b0 : (t223.toList == t211.toList) = true := beq_iff_eq.mpr c28
   have c28b1 : (t223.toList != t211.toList) = false := bne_eq_false_iff_eq.mpr c28
   clear c28
   simp only [Option.some.injEq, Prod.mk.injEq] at H
   obtain ⟨rfl, rfl, rfl⟩ := H
   go_wp2_with (first | ((with_reducible refine gd_ 14 ?_); refine bx_ 14 #[.int .u64 0, .int .i64 0] 27 ?_; intro gb222 hg w29 hbox hb; have BK222 := a_ (hbox); have GE222 := a_ (bs_2 hg HB GE209 GE210); replace HB := hB_ (bl_2 HB GE209 GE210) hb; have NB209_222 := nB_ hg BK209; have NB222_209 := nC_ hg BK209; replace BK209 := bB_ BK209 hb; have NB210_222 := nB_ hg BK210; have NB222_210 := nC_ hg BK210; replace BK210 := bB_ BK210 hb; clear hb hbox hg; have hnb30 := NB222_209.out; have hnc30 := NB209_222.out; have hnb31 := NB222_210.out; have hnc31 := NB210_222.out; obtain ⟨hcz32_0, hcz32_1, hfz32_0, hfz32_1⟩ := c2_ BK222) | ((with_reducible refine gk_ 44 ?_); refine gl_ (some 65) Try.func44 #[.agg #[.int .u64 t216, .int .i64 (wrap64 (t219))]] ?_; (with_reducible refine (gafferref04_file.calls kj13 t216 (wrap64 (t219)) t223 _ A27.out).mono ?_); rintro e w33 ⟨rfl, hb⟩; refine ⟨_, rfl, ?_⟩; replace BK209 := a_ (blk_below (g := gb209) (o := .cells #[.slice A0_0 l0_0.length c0_0, .bool a0_1, .int .i64 a0_2] 24 (0, 0)) (bp_1 BK209 NB209_222) hb); replace BK210 := a_ (blk_below (g := gb210) (o := .cells #[.int .u64 0, .int .i64 0] 27 (0, 0)) (bp_1 BK210 NB210_222) hb); replace BK222 := a_ (blk_below (g := gb222) (o := .cells #[.int .u64 t216, .int .i64 (wrap64 (t219))] 27 (0, 0)) (bp_0 BK222) hb); replace HB := hB_ (bl_3 HB GE209 GE210 GE222) hb; (try clear hb); obtain ⟨hcz34_0, hcz34_1, hfz34_0, hfz34_1⟩ := c2_ BK222; have hnb35 := NB210_209.out; have hnc35 := NB209_210.out; obtain ⟨hcz36_0, hcz36_1, hfz36_0, hfz36_1⟩ := c2_ BK210))
   refine bodyPost_ret (results_ct rfl _ _ gb210 27 #[.int .u64 t216, .int .i64 (wrap64 (t219))] (0, 0) _ rfl (bp_0 BK210) Try.underlying27 rfl (by kernel_rfl)) rfl ?_
   exact ⟨fz_, bl_3 HB GE209 GE210 GE222⟩
/-! ### hard_Check: function 21 -/
def hard_Check.f (a0_0 : Int) (a0_1 : Int) : Option (Int) := if a0_1 < 0 then (some 1) else (if a0_1 > 7 then (some 1) else (some 0))
theorem hard_Check.calls (a0_0 : Int) (a0_1 : Int) (r : Int) (w : World) (h : hard_Check.f a0_0 a0_1 = some r) :
  Calls Try.prog 21 #[.agg #[.int .u64 a0_0, .int .i64 a0_1]] w fun e w' => e = .returned (.int .i64 r) ∧ Below w.heap.size w w' := by
 have hu27 := Try.underlying27
 have HB := a_ (Below.refl w.heap.size w)
 have H : (if a0_1 < 0 then (some 1) else (if a0_1 > 7 then (some 1) else (some 0))) = some r := h
 clear h
 by_cases c2 : a0_1 < 0
 ·rw [if_pos c2] at H
  have c2b0 : decide (a0_1 < 0) = true := decide_eq_true c2
  clear c2
  obtain rfl := Option.some.inj H
  go_enter Try.func21, Try.ntmps21
  go_wp2_with (first | ((with_reducible refine gd_ 1 ?_); refine bx_ 1 #[.int .u64 a0_0, .int .i64 a0_1] 27 ?_; intro gb224 hg w3 hbox hb; have BK224 := a_ (hbox); have GE224 := a_ (bs_0 hg HB); replace HB := hB_ (bl_ HB) hb; clear hb hbox hg; obtain ⟨hcz4_0, hcz4_1, hfz4_0, hfz4_1⟩ := c2_ BK224))
  go_ret
  exact ⟨fz_, bl_1 HB GE224⟩
 rw [if_neg c2] at H
 have c2b0 : decide (a0_1 < 0) = false := decide_eq_false c2
 clear c2
 by_cases c5 : a0_1 > 7
 ·rw [if_pos c5] at H
  have c5b0 : decide (7 < a0_1) = true := decide_eq_true c5
  clear c5
  obtain rfl := Option.some.inj H
  go_enter Try.func21, Try.ntmps21
  go_wp2_with (first | ((with_reducible refine gd_ 1 ?_); refine bx_ 1 #[.int .u64 a0_0, .int .i64 a0_1] 27 ?_; intro gb224 hg w6 hbox hb; have BK224 := a_ (hbox); have GE224 := a_ (bs_0 hg HB); replace HB := hB_ (bl_ HB) hb; clear hb hbox hg; obtain ⟨hcz7_0, hcz7_1, hfz7_0, hfz7_1⟩ := c2_ BK224))
  go_ret
  exact ⟨fz_, bl_1 HB GE224⟩
 rw [if_neg c5] at H
 have c5b0 : decide (7 < a0_1) = false := decide_eq_false c5
 clear c5
 obtain rfl := Option.some.inj H
 go_enter Try.func21, Try.ntmps21
 go_wp2_with (first | ((with_reducible refine gd_ 1 ?_); refine bx_ 1 #[.int .u64 a0_0, .int .i64 a0_1] 27 ?_; intro gb224 hg w8 hbox hb; have BK224 := a_ (hbox); have GE224 := a_ (bs_0 hg HB); replace HB := hB_ (bl_ HB) hb; clear hb hbox hg; obtain ⟨hcz9_0, hcz9_1, hfz9_0, hfz9_1⟩ := c2_ BK224))
 go_ret
 exact ⟨fz_, bl_1 HB GE224⟩

def api_File_48.f (l0 : List (S71)) : Option ((List (S71))) := (some (([] : List (S71)) : List (S71))).bind fun y225 => (if y225.length + l0.length < 3518437208883 then (some (y225 ++ l0)) else (none))
theorem api_File_48.calls_ (A0 : Option Addr) (hA_ : A0.isNone = false) (c0 : Nat) (l0 : List (S71)) (r : List (S71)) (w : World) (hr0 : Kd.C k71 w A0 l0.length l0) (hc0 : l0.length ≤ c0) (h : api_File_48.f l0 = some r) :
  Calls Try.prog 48 #[.slice A0 l0.length c0] w fun e w' => ∃ v0_ : Value, e = .returned (v0_) ∧ Kd.R k71 71 w' w.heap.size (fun _ => True) v0_ r ∧ Below w.heap.size w w' := by
 have HR0 := a_ hr0
 have HC0 := a_ hc0
 clear hr0 hc0
 have q_ : ∀ (w : World) (n c n' c' : Nat), (binOp .eql 22 (.slice A0 n c) (.slice none n' c')).run Try.prog w = .ok (.bool false) w := fun w n c n' c' => by rw [Lib.run_eql_slice_nil w _ _ A0 n c n' c' Try.underlying22, hA_]
 have HB := a_ (Below.refl w.heap.size w)
 have H : ((some (([] : List (S71)) : List (S71))).bind fun y225 => (if y225.length + l0.length < 3518437208883 then (some (y225 ++ l0)) else (none))) = some r := h
 clear h
 obtain ⟨y225, hy225⟩ : ∃ y_ : List (S71), y_ = (([] : List (S71))) := ⟨_, rfl⟩
 replace H : (if y225.length + l0.length < 3518437208883 then (some (y225 ++ l0)) else (none)) = some r := by first | (rw [hy225]; with_reducible exact H) | (have H2_ := (Option.bind_some _ _).symm.trans H; rw [hy225]; with_reducible exact H2_) | (have H2_ := (Option.bind_some _ _).symm.trans H; with_reducible exact H2_) | with_reducible exact H | (rw [hy225]; exact H) | exact H
 have Ny225 := a_ hy225
 clear hy225
 by_cases c2 : y225.length + l0.length < 3518437208883
 rotate_left
 ·rw [if_neg c2] at H
  exact absurd H (by simp)
 rw [if_pos c2] at H
 have LMc2 := a_ c2
 clear c2
 obtain ⟨y228, hy228⟩ : ∃ y_ : List (S71), y_ = (y225 ++ l0) := ⟨_, rfl⟩
 replace H : (some y228) = some r := by first | (rw [hy228]; with_reducible exact H) | (have H2_ := (Option.bind_some _ _).symm.trans H; rw [hy228]; with_reducible exact H2_) | (have H2_ := (Option.bind_some _ _).symm.trans H; with_reducible exact H2_) | with_reducible exact H | (rw [hy228]; exact H) | exact H
 have Ny228 := a_ hy228
 clear hy228
 obtain rfl := Option.some.inj H
 go_enter Try.func48, Try.ntmps48
 go_wp2_with (first | ((with_reducible refine gd_ 5 ?_); refine Kd.R_lit k71 _ 71 ?hg (N := 5) ?hd (xs := ([] : List (S71))) (inner := []) (ok := fun _ => True) (okp := fun _ => True) ?hr ?hp (fun _ hk => hk) trivial (Below.refl _ _) (Nat.le_refl _) (by simp) ?_; (case hd => rfl); (case hg => rfl); (case hr => first | (go_simp; done) | (go_simp; rfl)); (case hp => exact (Reps.none _ _)); intro v226 w3 ho4 hb hg_ hnew_; clear hg_ hnew_; (first | rw [← Ny225.out] at ho4 | (simp only [Int.reduceToNat] at ho4; rw [← Ny225.out] at ho4)); have HO227 := a_ (Kd.R_lower ho4 (below_size (bl_ HB))); replace HB := hB_ (bl_ HB) hb; clear hb ho4) | ((with_reducible refine gate_builtin (b := .append) (xs := #[.tmp 5, .tmp 6]) rfl ?_); at_builtin; refine Kd.R_append_rows k71 (w0 := w) w.heap.size rfl (.tmp 5) (.tmp 6) 22 71 (.agg #[(.string ⟨#[]⟩), (.string ⟨#[]⟩), (.int .i64 0)]) 40 rfl Try.underlying22 info71 rfl (by decide) (by omega) v226 y225 l0 _ _ _ (fun _ => True) (fun _ => False) rfl rfl ?aO ?aR (fun _ _ h => h) (fun _ h => h.elim) ?aF ?aB ?aS ?aL ?_; (case aR => exact cl_ (Kd.C_below HR0.out HB.out)); (case aB => exact (bl_ HB)); (case aF => exact (fun _ _ => trivial)); (case aO => exact (by refine rq_ ?_; exact HO227.out)); (case aS => exact (below_size (bl_ HB))); (case aL => have := LMc2.out; omega); intro v229 w5 ho hb hg hat; rw [← Ny228.out] at ho; replace HB := a_ (hb); have HO230 := a_ (ho); clear HO227; clear ho hb hg hat))
 go_ret
 exact ⟨_, fz_, by refine rq_ ?_; exact HO230.out, bl_ HB⟩
set_option maxRecDepth 100000 in
theorem api_File_48.calls (A0 : Option Addr) (c0 : Nat) (l0 : List (S71)) (r : List (S71)) (w : World) (hr0 : Kd.C k71 w A0 l0.length l0) (hc0 : l0.length ≤ c0) (h : api_File_48.f l0 = some r) :
  Calls Try.prog 48 #[.slice A0 l0.length c0] w fun e w' => ∃ v0_ : Value, e = .returned (v0_) ∧ Kd.R k71 71 w' w.heap.size (fun _ => True) v0_ r ∧ Below w.heap.size w w' := by
  cases A0 with
  | some a => exact api_File_48.calls_ _ rfl _ _ _ _ hr0 hc0 h
  | none =>
    have hl : l0 = [] := by
      cases l0 with
      | nil => rfl
      | cons x l0 => obtain ⟨_, _, hx⟩ := hr0; obtain ⟨a, ha, _⟩ := hx (by simp); cases ha
    subst hl
    have hr : r = [] := by simpa [api_File_48.f, eq_comm] using h
    subst hr
    have q_ : ∀ (w : World) (n c n' c' : Nat), (binOp .eql 22 (.slice none n c) (.slice none n' c')).run Try.prog w = .ok (.bool true) w := fun w n c n' c' => by rw [Lib.run_eql_slice_nil w _ _ none n c n' c' Try.underlying22]; rfl
    go_enter Try.func48, Try.ntmps48
    go_wp2
    go_ret
    exact ⟨_, rfl, Kd.R_nil _ _ _ _ _, Below.refl _ _⟩

def disk_named.f (a0 : ByteArray) : Option (Bool) := if a0.toList = ([] : List UInt8) then (some false) else (some (decide ((a0.size : Int) ≤ 32)))
theorem disk_named.calls (a0 : ByteArray) (r : Bool) (w : World) (h : disk_named.f a0 = some r) :
  Calls Try.prog 111 #[.string a0] w fun e w' => e = .returned (.bool r) ∧ Drawn0 w w' := by
 have H : (if a0.toList = ([] : List UInt8) then (some false) else (some (decide ((a0.size : Int) ≤ 32)))) = some r := h
 clear h
 by_cases c2 : a0.toList = ([] : List UInt8)
 rotate_left
 ·rw [if_neg c2] at H
  have c2b0 : (a0.toList == ([] : List UInt8)) = false := beq_eq_false_iff_ne.mpr c2
  have c2b1 : (a0.toList != ([] : List UInt8)) = true := bne_iff_ne.mpr c2
  obtain rfl := Option.some.inj H
  go_enter Try.func111, Try.ntmps111
  go_wp2
  go_ret
  exact ⟨fz_, dr_⟩


 rw [if_pos c2] at H
 have c2b0 : (a0.toList == ([] : List UInt8)) = true := beq_iff_eq.mpr c2
 have c2b1 : (a0.toList != ([] : List UInt8)) = false := bne_eq_false_iff_eq.mpr c2
 clear c2
 obtain rfl := Option.some.inj H
 go_enter Try.func111, Try.ntmps111
 go_wp2
 go_ret
 exact ⟨fz_, dr_⟩end Go.Proofs.Ytpigjmjbfpipnaa.PD
