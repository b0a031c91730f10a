-- By a program of this session.
import Derived.Test.YtpigjmjbfpipnaaPDx0
import Derived.Test.YtpigjmjbfpipnaaPDx3
import Derived.Test.YtpigjmjbfpipnaaPDx6
import Derived.Test.YtpigjmjbfpipnaaPDx8
import Derived.Test.YtpigjmjbfpipnaaPDx13
import Derived.Test.YtpigjmjbfpipnaaPDx14
import Derived.Test.YtpigjmjbfpipnaaPDx15
import Derived.Test.YtpigjmjbfpipnaaPDx16
import Derived.Test.YtpigjmjbfpipnaaPDx17
namespace Go.Proofs.Ytpigjmjbfpipnaa.PD
open Go.RowKit YtpigjmjbfpipnaaW.PrintWords YtpigjmjbfpipnaaW.PrintLast YtpigjmjbfpipnaaW.PrintMore Sh Ytpigjmjbfpipnaa.Op
attribute [local go_sem] max2_int min2_int max_two min_two max_three min_three max_four min_four
set_option linter.unusedVariables false
set_option maxHeartbeats 80000000
set_option maxRecDepth 100000
set_option linter.unusedSimpArgs false

mutual
def gafferref04_Put.j0 : Nat → ByteArray → ByteArray → ByteArray → Int → List (S71) → Bool → Int → Option ((List (S71)) × Bool × Int × Int)
 | 0, _, _, _, _, _, _, _ => none
 | k + 1, x1, x2, x8, x9, x494000, x494001, x494002 => if x9 = 0 then ((gafferref02_Add.f k x494000 x494001 x494002 x8 x2).bind fun bt503 => (gafferref04_Put.j1 k x1 x8 bt503.2.2.2 bt503.1 bt503.2.1 bt503.2.2.1)) else (gafferref04_Put.j1 k x1 x8 x9 x494000 x494001 x494002)
def gafferref04_Put.j1 : Nat → ByteArray → ByteArray → Int → List (S71) → Bool → Int → Option ((List (S71)) × Bool × Int × Int)
 | 0, _, _, _, _, _, _ => none
 | k + 1, x1, x8, x9, x494000, x494001, x494002 => if x9 = 0 then ((gafferref02_Sync.f k x494000 x494001 x494002 x8).bind fun bt509 => (if bt509.2.2.2 = 0 then ((gafferref02_Swap.f k bt509.1 bt509.2.1 bt509.2.2.1 x8 x1).bind fun bt515 => (some (bt515.1, bt515.2.1, bt515.2.2.1, bt515.2.2.2))) else (some (bt509.1, bt509.2.1, bt509.2.2.1, bt509.2.2.2)))) else (some (x494000, x494001, x494002, x9))
end
def gafferref04_Put.f (k : Nat) (l0_0 : List (S71)) (a0_1 : Bool) (a0_2 : Int) (a1 : ByteArray) (a2 : ByteArray) : Option ((List (S71)) × Bool × Int × Int) := if a1.size + 4 ≤ 9223372036854775807 then ((gafferref02_Read.f k l0_0 a0_1 a0_2 (a1 ++ (⟨#[46, 116, 109, 112]⟩ : ByteArray))).bind fun bt495 => (if bt495.2 = 0 then ((gafferref02_Drop.f k l0_0 a0_1 a0_2 (a1 ++ (⟨#[46, 116, 109, 112]⟩ : ByteArray))).bind fun bt497 => (gafferref04_Put.j0 k a1 a2 (a1 ++ (⟨#[46, 116, 109, 112]⟩ : ByteArray)) bt497.2.2.2 bt497.1 bt497.2.1 bt497.2.2.1)) else (gafferref04_Put.j0 k a1 a2 (a1 ++ (⟨#[46, 116, 109, 112]⟩ : ByteArray)) 0 l0_0 a0_1 a0_2))) else (none)
theorem gafferref04_Put.mono_l : ∀ k, (∀ y0 y1 y2 y3 y4 y5 y6, LeO (gafferref04_Put.j0 k y0 y1 y2 y3 y4 y5 y6) (gafferref04_Put.j0 (k + 1) y0 y1 y2 y3 y4 y5 y6)) ∧ (∀ y0 y1 y2 y3 y4 y5, LeO (gafferref04_Put.j1 k y0 y1 y2 y3 y4 y5) (gafferref04_Put.j1 (k + 1) y0 y1 y2 y3 y4 y5))
 | 0 => ⟨fun _ _ _ _ _ _ _ r h => by simp [gafferref04_Put.j0] at h, fun _ _ _ _ _ _ r h => by simp [gafferref04_Put.j1] at h⟩
 | k + 1 => by
  obtain ⟨ih0, ih1⟩ := gafferref04_Put.mono_l k
  refine ⟨?_, ?_⟩
  ·intro y0 y1 y2 y3 y4 y5 y6
   unfold gafferref04_Put.j0
   repeat' with_reducible first | apply ih0 | apply ih1 | apply gafferref02_Add.mono | apply gafferref02_Drop.mono | apply gafferref02_Read.mono | apply gafferref02_Swap.mono | apply gafferref02_Sync.mono | apply LeO.refl | apply LeO.none | apply LeO.ite | refine LeO.bind ?_ (fun _ => ?_)
  ·intro y0 y1 y2 y3 y4 y5
   unfold gafferref04_Put.j1
   repeat' with_reducible first | apply ih0 | apply ih1 | apply gafferref02_Add.mono | apply gafferref02_Drop.mono | apply gafferref02_Read.mono | apply gafferref02_Swap.mono | apply gafferref02_Sync.mono | apply LeO.refl | apply LeO.none | apply LeO.ite | refine LeO.bind ?_ (fun _ => ?_)
theorem gafferref04_Put.mono : ∀ a0 a1 a2 a3 a4 k, LeO (gafferref04_Put.f k a0 a1 a2 a3 a4) (gafferref04_Put.f (k + 1) a0 a1 a2 a3 a4) := by
 intro a0 a1 a2 a3 a4 k
 obtain ⟨ih0, ih1⟩ := gafferref04_Put.mono_l k
 unfold gafferref04_Put.f
 repeat' with_reducible first | apply ih0 | apply ih1 | apply gafferref02_Add.mono | apply gafferref02_Drop.mono | apply gafferref02_Read.mono | apply gafferref02_Swap.mono | apply gafferref02_Sync.mono | apply LeO.refl | apply LeO.none | apply LeO.ite | refine LeO.bind ?_ (fun _ => ?_)
theorem gafferref04_Put.calls (k : Nat) (P0_0_ : Nat → Prop) (A0_0 : Option Addr) (c0_0 : Nat) (l0_0 : List (S71)) (a0_1 : Bool) (a0_2 : Int) (a1 : ByteArray) (a2 : ByteArray) (r1 : List (S71)) (r2 : Bool) (r3 : Int) (r4 : Int) (w : World) (hs0_0 : Kd.V k71 71 w w.heap.size (fun k_ => P0_0_ k_) (.slice A0_0 l0_0.length c0_0) l0_0) (h : gafferref04_Put.f k l0_0 a0_1 a0_2 a1 a2 = some (r1, r2, r3, r4)) :
  Calls Try.prog 47 #[.agg #[.slice A0_0 l0_0.length c0_0, .bool a0_1, .int .i64 a0_2], .string a1, .string a2] w fun e w' => ∃ v0_ : Value, e = .returned (.tuple #[.agg #[v0_, .bool r2, .int .i64 r3], .int .i64 r4]) ∧ Kd.V k71 71 w' w.heap.size (fun k_ => (P0_0_ k_ ∨ w.heap.size ≤ k_)) v0_ r1 ∧ Below w.heap.size w w' := by
 have hu24 := Try.underlying24
 have HO0_0 := a_ (show Kd.V k71 71 w w.heap.size (fun k_ => (P0_0_ k_ ∨ w.heap.size ≤ k_)) (.slice A0_0 l0_0.length c0_0) l0_0 from Kd.V_mono hs0_0 (fun k_ hk => .inl hk))
 have HB := a_ (Below.refl w.heap.size w)
 have H : (if a1.size + 4 ≤ 9223372036854775807 then ((gafferref02_Read.f k l0_0 a0_1 a0_2 (a1 ++ (⟨#[46, 116, 109, 112]⟩ : ByteArray))).bind fun bt495 => (if bt495.2 = 0 then ((gafferref02_Drop.f k l0_0 a0_1 a0_2 (a1 ++ (⟨#[46, 116, 109, 112]⟩ : ByteArray))).bind fun bt497 => (gafferref04_Put.j0 k a1 a2 (a1 ++ (⟨#[46, 116, 109, 112]⟩ : ByteArray)) bt497.2.2.2 bt497.1 bt497.2.1 bt497.2.2.1)) else (gafferref04_Put.j0 k a1 a2 (a1 ++ (⟨#[46, 116, 109, 112]⟩ : ByteArray)) 0 l0_0 a0_1 a0_2))) else (none)) = some (r1, r2, r3, r4) := h
 clear h
 by_cases c4 : a1.size + 4 ≤ 9223372036854775807
 rotate_left
 ·rw [if_neg c4] at H
  exact absurd H (by simp)


 rw [if_pos c4] at H
 have c4b0 := eq_true c4
 have c4b1 : decide (a1.size + 4 ≤ 9223372036854775807) = true := decide_eq_true c4
 try have c4b2 : (9223372036854775807 < a1.size + 4) = False := eq_false (Nat.not_lt.2 c4)
 clear c4
 obtain ⟨⟨t495, t496⟩, A50, H⟩ := Option.bind_eq_some_iff.mp H
 try dsimp only at H
 have A5 := a_ A50
 clear A50
 have HC6 := a_ H
 clear H
 go_enter Try.func47, Try.ntmps47
 go_upto_if 21 with (first | ((with_reducible refine gd_ 3 ?_); refine bx_ 3 #[.slice A0_0 l0_0.length c0_0, .bool a0_1, .int .i64 a0_2] 24 ?_; intro gb493 hg w7 hbox hb; replace HO0_0 := a_ (Kd.V_below (Kd.V_elderB (by refine vq_ ?_; exact HO0_0.out) gb493 (Nat.le_of_eq hg.symm)) hb); have BK493 := a_ (hbox); have GE493 := a_ (bs_0 hg HB); replace HB := hB_ (bl_ HB) hb; clear hb hbox hg) | ((with_reducible refine gd_ 6 ?_); refine bx_ 6 #[.slice none 0 0, .bool false, .int .i64 0] 24 ?_; intro gb494 hg w8 hbox hb; replace HO0_0 := a_ (Kd.V_below (Kd.V_elderB (by refine vq_ ?_; exact HO0_0.out) gb494 (Nat.le_of_eq hg.symm)) hb); have BK494 := a_ (hbox); have GE494 := a_ (bs_1 hg HB GE493); replace HB := hB_ (bl_1 HB GE493) hb; have NB493_494 := nB_ hg BK493; have NB494_493 := nC_ hg BK493; replace BK493 := bB_ BK493 hb; clear hb hbox hg; have hnb9 := NB493_494.out; have hnc9 := NB494_493.out; obtain ⟨hcz10_0, hcz10_1, hcz10_2, hfz10_0, hfz10_1, hfz10_2⟩ := c3_ BK493) | ((with_reducible refine gk_ 41 ?_); refine gl_ (some 17) Try.func41 #[.agg #[.slice A0_0 l0_0.length c0_0, .bool a0_1, .int .i64 a0_2], .string (a1 ++ (⟨#[46, 116, 109, 112]⟩ : ByteArray))] ?_; (with_reducible refine (gafferref02_Read.calls k _ _ l0_0 a0_1 a0_2 (a1 ++ (⟨#[46, 116, 109, 112]⟩ : ByteArray)) t495 t496 _ ?side1 ?side2 A5.out).mono ?_); (case side1 => exact cl_ ((Kd.V_reads' HO0_0.out).2.2)); (case side2 => exact (Kd.V_reads' HO0_0.out).2.1); rintro e w11 ⟨rfl, hb⟩; refine ⟨_, rfl, ?_⟩; replace HO0_0 := a_ (Kd.V_below (by refine vq_ ?_; exact HO0_0.out) hb); replace BK493 := bB_ BK493 hb; replace BK494 := bB_ BK494 hb; replace HB := hB_ (bl_2 HB GE493 GE494) hb; (try clear hb)))
 (try simp only [Act.put, List.setIfInBounds_toArray, List.set_cons_zero, List.set_cons_succ])
 go_cut [9] (fun v9 wc => ∃ (kq : Nat) (x9_5 : Int) (x494000_5 : List (S71)) (x494001_5 : Bool) (x494002_5 : Int) (u494000 : Value), v9 = .int .i64 x9_5 ∧ Aside0 (gafferref04_Put.j0 kq a1 a2 (a1 ++ (⟨#[46, 116, 109, 112]⟩ : ByteArray)) x9_5 x494000_5 x494001_5 x494002_5 = some (r1, r2, r3, r4)) ∧ Aside0 (kq ≤ k) ∧ Aside0 (Kd.V k71 71 wc w.heap.size (fun k_ => (P0_0_ k_ ∨ w.heap.size ≤ k_) ∧ k_ ≠ gb493 ∧ k_ ≠ gb494) u494000 x494000_5) ∧ Aside0 (wc.heap[gb493]? = some (.cells #[u494000, .bool x494001_5, .int .i64 x494002_5] 24 (0, 0))) ∧ Aside0 (wc.heap[gb494]? = some (.cells #[(.slice none 0 0), .bool false, .int .i64 0] 24 (0, 0))) ∧ Aside0 (Below w.heap.size w wc))
 case first =>
  have H := HC6.out
  clear HC6
  by_cases c12 : t496 = 0
  rotate_left
  ·rw [if_neg c12] at H
   have c12b0 : (t496 == 0) = false := beq_eq_false_iff_ne.mpr c12
   have c12b1 : (t496 != 0) = true := bne_iff_ne.mpr c12
   (first | rw [c12b0] | (simp only [i64_w, i32_w]; rw [c12b0]) | skip)
   have H' := a_ H
   clear H
   go_wp2
   go_meet
   case rel => exact ⟨_, (0), (l0_0), (a0_1), (a0_2), (.slice A0_0 l0_0.length c0_0), fz_, H', ⟨by first | omega | exact Nat.le_refl _⟩, ⟨by refine vq_ ?_; exact Kd.V_mono HO0_0.out (fun _ hk => ⟨hk.1.1, ⟨hk.1.2, hk.2⟩⟩)⟩, ⟨bk_ BK493⟩, ⟨bk_ BK494⟩, ⟨bl_2 HB GE493 GE494⟩⟩
  rw [if_pos c12] at H
  have c12b0 : (t496 == 0) = true := beq_iff_eq.mpr c12
  have c12b1 : (t496 != 0) = false := bne_eq_false_iff_eq.mpr c12
  clear c12
  (first | rw [c12b0] | (simp only [i64_w, i32_w]; rw [c12b0]) | skip)
  obtain ⟨⟨t497, t500, t501, t502⟩, A130, H⟩ := Option.bind_eq_some_iff.mp H
  try dsimp only at H
  have A13 := a_ A130
  clear A130
  have H' := a_ H
  clear H
  have hnb14 := NB493_494.out
  have hnc14 := NB494_493.out
  obtain ⟨hcz15_0, hcz15_1, hcz15_2, hfz15_0, hfz15_1, hfz15_2⟩ := c3_ BK493
  go_wp2_with (first | ((with_reducible refine gk_ 75 ?_); refine gl_ (some 25) Try.func75 #[.agg #[.slice A0_0 l0_0.length c0_0, .bool a0_1, .int .i64 a0_2], .string (a1 ++ (⟨#[46, 116, 109, 112]⟩ : ByteArray))] ?_; (with_reducible refine (gafferref02_Drop.calls k _ _ l0_0 a0_1 a0_2 (a1 ++ (⟨#[46, 116, 109, 112]⟩ : ByteArray)) t497 t500 t501 t502 _ ?side1 ?side2 A13.out).mono ?_); (case side1 => exact cl_ ((Kd.V_reads' HO0_0.out).2.2)); (case side2 => exact (Kd.V_reads' HO0_0.out).2.1); rintro e w16 ⟨v498, rfl, ho0, hb⟩; refine ⟨_, rfl, ?_⟩; replace HO0_0 := a_ (Kd.V_elder' (by refine vq_ ?_; exact HO0_0.out) (Kd.R_base ho0) hb); have HO499 := a_ (Kd.R_lower (Kd.R_newM (M := fun k_ => (w.heap.size ≤ k_)) ho0 (below_size (bl_2 HB GE493 GE494)) (fun k_ h_ => h_)) (below_size (bl_2 HB GE493 GE494))); replace BK493 := bB_ BK493 hb; replace BK494 := bB_ BK494 hb; replace HB := hB_ (bl_2 HB GE493 GE494) hb; (try clear hb); (try clear ho0); obtain ⟨Ao17, co17, eo17⟩ := Kd.R_slice HO499.out; subst eo17; obtain ⟨hcz18_0, hcz18_1, hcz18_2, hfz18_0, hfz18_1, hfz18_2⟩ := c3_ BK493))
  go_meet
  case rel => exact ⟨_, (t502), (t497), (t500), (t501), (.slice Ao17 t497.length co17), fz_, H', ⟨by first | omega | exact Nat.le_refl _⟩, ⟨Kd.V_mono (ok := (fun k_ => (((w.heap.size ≤ k_)) ∧ (k_ ≠ gb493 ∧ k_ ≠ gb494)))) (Kd.R_V (by refine rq_ ?_; exact Kd.R_mono (Kd.R_far (p := ⟨gb493, 2, none⟩) (Kd.R_far (p := ⟨gb493, 1, none⟩) (Kd.R_far (p := ⟨gb493, 0, none⟩) (Kd.R_types (Kd.R_types (Kd.R_types HO499.out BK493.out (by decide)) BK494.out (by decide)) BK493.out (by decide)) (fun _ hk => hk.2) (.slice Ao17 t497.length co17)) (fun _ hk => hk.2) (.bool t500)) (fun _ hk => hk.2) (.int .i64 t501)) (fun _ hk => ⟨hk.1.1.1.1, ⟨hk.1.1.2, hk.1.2⟩⟩))) (fun k_ hk => by first | exact ⟨(.inr (hk.1)), hk.2⟩ | exact (.inr (hk)))⟩, ⟨by refine bq_ ?_; refine blk_put (cs := #[.slice Ao17 t497.length co17, .bool t500, .int .i64 a0_2]) ?_ 2 _ rfl; refine bq_ ?_; refine blk_put (cs := #[.slice Ao17 t497.length co17, .bool a0_1, .int .i64 a0_2]) ?_ 1 _ rfl; refine bq_ ?_; refine blk_put (cs := #[.slice A0_0 l0_0.length c0_0, .bool a0_1, .int .i64 a0_2]) ?_ 0 _ rfl; refine bq_ ?_; exact BK493.out⟩, ⟨by refine bq_ ?_; refine blk_far ?_ NB494_493.out _; refine bq_ ?_; refine blk_far ?_ NB494_493.out _; refine bq_ ?_; refine blk_far ?_ NB494_493.out _; refine bq_ ?_; exact BK494.out⟩, ⟨bl_2 HB GE493 GE494⟩⟩
 case rest =>
  clear HC6
  try clear c1
  try clear p2
  try clear c4
  try clear c4b0
  try clear c4b1
  try clear c4b2
  try clear c7
  try clear c9
  try clear c12
  try clear c12b0
  try clear c12b1
  try clear c14
  obtain ⟨kq, x9_5, x494000_5, x494001_5, x494002_5, u494000, rfl, HA, HJ5, HO_494000, BK493, BK494, HB⟩ := hcut
  cases kq with
  | zero => exact absurd HA.out (by simp [gafferref04_Put.j0])
  | succ kj5 =>
   have H := HA.out
   clear HA
   simp only [gafferref04_Put.j0] at H
   have HC19 := a_ H
   clear H
   go_upto_if 29 with (fail)
   go_cut [9] (fun v9 wc => ∃ (kq : Nat) (x9_18 : Int) (x494000_18 : List (S71)) (x494001_18 : Bool) (x494002_18 : Int) (u494000 : Value), v9 = .int .i64 x9_18 ∧ Aside0 (gafferref04_Put.j1 kq a1 (a1 ++ (⟨#[46, 116, 109, 112]⟩ : ByteArray)) x9_18 x494000_18 x494001_18 x494002_18 = some (r1, r2, r3, r4)) ∧ Aside0 (kq ≤ kj5) ∧ Aside0 (Kd.V k71 71 wc w.heap.size (fun k_ => (P0_0_ k_ ∨ w.heap.size ≤ k_) ∧ k_ ≠ gb493 ∧ k_ ≠ gb494) u494000 x494000_18) ∧ Aside0 (wc.heap[gb493]? = some (.cells #[u494000, .bool x494001_18, .int .i64 x494002_18] 24 (0, 0))) ∧ Aside0 (wc.heap[gb494]? = some (.cells #[(.slice none 0 0), .bool false, .int .i64 0] 24 (0, 0))) ∧ Aside0 (Below w.heap.size w wc))
   case first =>
    have H := HC19.out
    clear HC19
    by_cases c20 : x9_5 = 0
    rotate_left
    ·rw [if_neg c20] at H
     have c20b0 : (x9_5 == 0) = false := beq_eq_false_iff_ne.mpr c20
     have c20b1 : (x9_5 != 0) = true := bne_iff_ne.mpr c20
     (first | rw [c20b0] | (simp only [i64_w, i32_w]; rw [c20b0]) | skip)
     have H' := a_ H
     clear H
     go_wp2
     go_meet
     case rel => exact ⟨_, (x9_5), (x494000_5), (x494001_5), (x494002_5), (u494000), fz_, H', ⟨by have := HJ5.out; first | omega | exact Nat.le_refl _⟩, ⟨by refine vq_ ?_; exact HO_494000.out⟩, ⟨bk_ BK493⟩, ⟨bk_ BK494⟩, ⟨bl_2 HB GE493 GE494⟩⟩
    rw [if_pos c20] at H
    have c20b0 : (x9_5 == 0) = true := beq_iff_eq.mpr c20
    have c20b1 : (x9_5 != 0) = false := bne_eq_false_iff_eq.mpr c20
    clear c20
    (first | rw [c20b0] | (simp only [i64_w, i32_w]; rw [c20b0]) | skip)
    obtain ⟨⟨t503, t506, t507, t508⟩, A210, H⟩ := Option.bind_eq_some_iff.mp H
    try dsimp only at H
    have A21 := a_ A210
    clear A210
    have H' := a_ H
    clear H
    have hnb22 := NB493_494.out
    have hnc22 := NB494_493.out
    obtain ⟨hcz23_0, hcz23_1, hcz23_2, hfz23_0, hfz23_1, hfz23_2⟩ := c3_ BK493
    obtain ⟨Ao24, co24, eo24⟩ := Kd.V_slice HO_494000.out
    subst eo24
    go_wp2_with (first | ((with_reducible refine gk_ 76 ?_); refine gl_ (some 34) Try.func76 #[.agg #[.slice Ao24 x494000_5.length co24, .bool x494001_5, .int .i64 x494002_5], .string (a1 ++ (⟨#[46, 116, 109, 112]⟩ : ByteArray)), .string a2] ?_; (with_reducible refine (gafferref02_Add.calls kj5 _ _ x494000_5 x494001_5 x494002_5 (a1 ++ (⟨#[46, 116, 109, 112]⟩ : ByteArray)) a2 t503 t506 t507 t508 _ ?side1 ?side2 A21.out).mono ?_); (case side1 => exact cl_ ((Kd.V_reads' HO_494000.out).2.2)); (case side2 => exact (Kd.V_reads' HO_494000.out).2.1); rintro e w25 ⟨v504, rfl, ho0, hb⟩; refine ⟨_, rfl, ?_⟩; replace HO_494000 := a_ (Kd.V_elder' (by refine vq_ ?_; exact HO_494000.out) (Kd.R_base ho0) hb); have HO505 := a_ (Kd.R_lower (Kd.R_newM (M := fun k_ => (w.heap.size ≤ k_)) ho0 (below_size (bl_2 HB GE493 GE494)) (fun k_ h_ => h_)) (below_size (bl_2 HB GE493 GE494))); replace BK493 := bB_ BK493 hb; replace BK494 := bB_ BK494 hb; replace HB := hB_ (bl_2 HB GE493 GE494) hb; (try clear hb); (try clear ho0); obtain ⟨Ao26, co26, eo26⟩ := Kd.R_slice HO505.out; subst eo26; obtain ⟨hcz27_0, hcz27_1, hcz27_2, hfz27_0, hfz27_1, hfz27_2⟩ := c3_ BK493))
    go_meet
    case rel => exact ⟨_, (t508), (t503), (t506), (t507), (.slice Ao26 t503.length co26), fz_, H', ⟨by have := HJ5.out; first | omega | exact Nat.le_refl _⟩, ⟨Kd.V_mono (ok := (fun k_ => (((w.heap.size ≤ k_)) ∧ (k_ ≠ gb493 ∧ k_ ≠ gb494)))) (Kd.R_V (by refine rq_ ?_; exact Kd.R_mono (Kd.R_far (p := ⟨gb493, 2, none⟩) (Kd.R_far (p := ⟨gb493, 1, none⟩) (Kd.R_far (p := ⟨gb493, 0, none⟩) (Kd.R_types (Kd.R_types (Kd.R_types HO505.out BK493.out (by decide)) BK494.out (by decide)) BK493.out (by decide)) (fun _ hk => hk.2) (.slice Ao26 t503.length co26)) (fun _ hk => hk.2) (.bool t506)) (fun _ hk => hk.2) (.int .i64 t507)) (fun _ hk => ⟨hk.1.1.1.1, ⟨hk.1.1.2, hk.1.2⟩⟩))) (fun k_ hk => by first | exact ⟨(.inr (hk.1)), hk.2⟩ | exact (.inr (hk)))⟩, ⟨by refine bq_ ?_; refine blk_put (cs := #[.slice Ao26 t503.length co26, .bool t506, .int .i64 x494002_5]) ?_ 2 _ rfl; refine bq_ ?_; refine blk_put (cs := #[.slice Ao26 t503.length co26, .bool x494001_5, .int .i64 x494002_5]) ?_ 1 _ rfl; refine bq_ ?_; refine blk_put (cs := #[.slice Ao24 x494000_5.length co24, .bool x494001_5, .int .i64 x494002_5]) ?_ 0 _ rfl; refine bq_ ?_; exact BK493.out⟩, ⟨by refine bq_ ?_; refine blk_far ?_ NB494_493.out _; refine bq_ ?_; refine blk_far ?_ NB494_493.out _; refine bq_ ?_; refine blk_far ?_ NB494_493.out _; refine bq_ ?_; exact BK494.out⟩, ⟨bl_2 HB GE493 GE494⟩⟩
   case rest =>
    clear HC19
    try clear c1
    try clear c2
    try clear p2
    try clear c4
    try clear c4b0
    try clear c4b1
    try clear c4b2
    try clear c7
    try clear c9
    try clear c12
    try clear c12b0
    try clear c12b1
    try clear c14
    try clear c20
    try clear c20b0
    try clear c20b1
    try clear c22
    try clear p2
    obtain ⟨kq, x9_18, x494000_18, x494001_18, x494002_18, u494000, rfl, HA, HJ18, HO_494000, BK493, BK494, HB⟩ := hcut
    cases kq with
    | zero => exact absurd HA.out (by simp [gafferref04_Put.j1])
    | succ kj18 =>
     have H := HA.out
     clear HA
     simp only [gafferref04_Put.j1] at H
     by_cases c28 : x9_18 = 0
     rotate_left
     ·rw [if_neg c28] at H
      have c28b0 : (x9_18 == 0) = false := beq_eq_false_iff_ne.mpr c28
      have c28b1 : (x9_18 != 0) = true := bne_iff_ne.mpr c28
      simp only [Option.some.injEq, Prod.mk.injEq] at H
      obtain ⟨rfl, rfl, rfl, rfl⟩ := H
      have hnb49 := NB493_494.out
      have hnc49 := NB494_493.out
      obtain ⟨hcz50_0, hcz50_1, hcz50_2, hfz50_0, hfz50_1, hfz50_2⟩ := c3_ BK493
      obtain ⟨Ao51, co51, eo51⟩ := Kd.V_slice HO_494000.out
      subst eo51
      obtain ⟨hcz52_0, hcz52_1, hcz52_2, hfz52_0, hfz52_1, hfz52_2⟩ := c3_ BK494
      go_wp2
      refine bodyPost_ret (results_ct rfl _ _ gb494 24 #[.slice Ao51 x494000_18.length co51, .bool x494001_18, .int .i64 x494002_18] (0, 0) _ rfl (bp_0 BK494) Try.underlying24 rfl (by kernel_rfl)) rfl ?_
      exact ⟨_, fz_, by refine vq_ ?_; exact Kd.V_mono (Kd.V_far (p := ⟨gb494, 2, none⟩) (Kd.V_far (p := ⟨gb494, 1, none⟩) (Kd.V_far (p := ⟨gb494, 0, none⟩) (Kd.V_mono HO_494000.out (fun k_ hk => (⟨hk, hk.2.2⟩ : _ ∧ k_ ≠ gb494))) (fun _ hk => hk.2) (.slice Ao51 x494000_18.length co51)) (fun _ hk => hk.2) (.bool x494001_18)) (fun _ hk => hk.2) (.int .i64 x494002_18)) (fun _ hk => hk.1.1), bl_2 HB GE493 GE494⟩
     rw [if_pos c28] at H
     have c28b0 : (x9_18 == 0) = true := beq_iff_eq.mpr c28
     have c28b1 : (x9_18 != 0) = false := bne_eq_false_iff_eq.mpr c28
     clear c28
     obtain ⟨⟨t509, t512, t513, t514⟩, A290, H⟩ := Option.bind_eq_some_iff.mp H
     try dsimp only at H
     have A29 := a_ A290
     clear A290
     by_cases c30 : t514 = 0
     rotate_left
     ·rw [if_neg c30] at H
      have c30b0 : (t514 == 0) = false := beq_eq_false_iff_ne.mpr c30
      have c30b1 : (t514 != 0) = true := bne_iff_ne.mpr c30
      simp only [Option.some.injEq, Prod.mk.injEq] at H
      obtain ⟨rfl, rfl, rfl, rfl⟩ := H
      have hnb42 := NB493_494.out
      have hnc42 := NB494_493.out
      obtain ⟨hcz43_0, hcz43_1, hcz43_2, hfz43_0, hfz43_1, hfz43_2⟩ := c3_ BK493
      obtain ⟨Ao44, co44, eo44⟩ := Kd.V_slice HO_494000.out
      subst eo44
      go_wp2_with (first | ((with_reducible refine gk_ 77 ?_); refine gl_ (some 42) Try.func77 #[.agg #[.slice Ao44 x494000_18.length co44, .bool x494001_18, .int .i64 x494002_18], .string (a1 ++ (⟨#[46, 116, 109, 112]⟩ : ByteArray))] ?_; (with_reducible refine (gafferref02_Sync.calls kj18 _ _ x494000_18 x494001_18 x494002_18 (a1 ++ (⟨#[46, 116, 109, 112]⟩ : ByteArray)) t509 t512 t513 t514 _ ?side1 ?side2 A29.out).mono ?_); (case side1 => exact cl_ ((Kd.V_reads' HO_494000.out).2.2)); (case side2 => exact (Kd.V_reads' HO_494000.out).2.1); rintro e w45 ⟨v510, rfl, ho0, hb⟩; refine ⟨_, rfl, ?_⟩; replace HO_494000 := a_ (Kd.V_elder' (by refine vq_ ?_; exact HO_494000.out) (Kd.R_base ho0) hb); have HO511 := a_ (Kd.R_lower (Kd.R_newM (M := fun k_ => (w.heap.size ≤ k_)) ho0 (below_size (bl_2 HB GE493 GE494)) (fun k_ h_ => h_)) (below_size (bl_2 HB GE493 GE494))); replace BK493 := bB_ BK493 hb; replace BK494 := bB_ BK494 hb; replace HB := hB_ (bl_2 HB GE493 GE494) hb; (try clear hb); (try clear ho0); obtain ⟨Ao46, co46, eo46⟩ := Kd.R_slice HO511.out; subst eo46; obtain ⟨hcz47_0, hcz47_1, hcz47_2, hfz47_0, hfz47_1, hfz47_2⟩ := c3_ BK493; obtain ⟨hcz48_0, hcz48_1, hcz48_2, hfz48_0, hfz48_1, hfz48_2⟩ := c3_ BK494))
      refine bodyPost_ret (results_ct rfl _ _ gb494 24 #[.slice Ao46 t509.length co46, .bool t512, .int .i64 t513] (0, 0) _ rfl (bp_1 BK494 NB494_493) Try.underlying24 rfl (by kernel_rfl)) rfl ?_
      exact ⟨_, fz_, Kd.V_mono (ok := (fun k_ => ((w.heap.size ≤ k_)))) (Kd.R_V (by refine rq_ ?_; exact Kd.R_mono (Kd.R_far (p := ⟨gb494, 2, none⟩) (Kd.R_far (p := ⟨gb494, 1, none⟩) (Kd.R_far (p := ⟨gb494, 0, none⟩) (Kd.R_far (p := ⟨gb493, 2, none⟩) (Kd.R_far (p := ⟨gb493, 1, none⟩) (Kd.R_far (p := ⟨gb493, 0, none⟩) (Kd.R_types (Kd.R_types HO511.out BK493.out (by decide)) BK494.out (by decide)) (fun _ hk => hk.1.2) (.slice Ao46 t509.length co46)) (fun _ hk => hk.1.2) (.bool t512)) (fun _ hk => hk.1.2) (.int .i64 t513)) (fun _ hk => hk.2) (.slice Ao46 t509.length co46)) (fun _ hk => hk.2) (.bool t512)) (fun _ hk => hk.2) (.int .i64 t513)) (fun _ hk => hk.1.1.1))) (fun k_ hk => by first | exact ⟨(.inr (hk.1)), hk.2⟩ | exact (.inr (hk))), bl_2 HB GE493 GE494⟩
     rw [if_pos c30] at H
     have c30b0 : (t514 == 0) = true := beq_iff_eq.mpr c30
     have c30b1 : (t514 != 0) = false := bne_eq_false_iff_eq.mpr c30
     clear c30
     obtain ⟨⟨t515, t518, t519, t520⟩, A310, H⟩ := Option.bind_eq_some_iff.mp H
     try dsimp only at H
     have A31 := a_ A310
     clear A310
     simp only [Option.some.injEq, Prod.mk.injEq] at H
     obtain ⟨rfl, rfl, rfl, rfl⟩ := H
     have hnb32 := NB493_494.out
     have hnc32 := NB494_493.out
     obtain ⟨hcz33_0, hcz33_1, hcz33_2, hfz33_0, hfz33_1, hfz33_2⟩ := c3_ BK493
     obtain ⟨Ao34, co34, eo34⟩ := Kd.V_slice HO_494000.out
     subst eo34
     go_wp2_with (first | ((with_reducible refine gk_ 77 ?_); refine gl_ (some 42) Try.func77 #[.agg #[.slice Ao34 x494000_18.length co34, .bool x494001_18, .int .i64 x494002_18], .string (a1 ++ (⟨#[46, 116, 109, 112]⟩ : ByteArray))] ?_; (with_reducible refine (gafferref02_Sync.calls kj18 _ _ x494000_18 x494001_18 x494002_18 (a1 ++ (⟨#[46, 116, 109, 112]⟩ : ByteArray)) t509 t512 t513 t514 _ ?side1 ?side2 A29.out).mono ?_); (case side1 => exact cl_ ((Kd.V_reads' HO_494000.out).2.2)); (case side2 => exact (Kd.V_reads' HO_494000.out).2.1); rintro e w35 ⟨v510, rfl, ho0, hb⟩; refine ⟨_, rfl, ?_⟩; replace HO_494000 := a_ (Kd.V_elder' (by refine vq_ ?_; exact HO_494000.out) (Kd.R_base ho0) hb); have HO511 := a_ (Kd.R_lower (Kd.R_newM (M := fun k_ => (w.heap.size ≤ k_)) ho0 (below_size (bl_2 HB GE493 GE494)) (fun k_ h_ => h_)) (below_size (bl_2 HB GE493 GE494))); replace BK493 := bB_ BK493 hb; replace BK494 := bB_ BK494 hb; replace HB := hB_ (bl_2 HB GE493 GE494) hb; (try clear hb); (try clear ho0); obtain ⟨Ao36, co36, eo36⟩ := Kd.R_slice HO511.out; subst eo36; obtain ⟨hcz37_0, hcz37_1, hcz37_2, hfz37_0, hfz37_1, hfz37_2⟩ := c3_ BK493) | ((with_reducible refine gk_ 78 ?_); refine gl_ (some 51) Try.func78 #[.agg #[.slice Ao36 t509.length co36, .bool t512, .int .i64 t513], .string (a1 ++ (⟨#[46, 116, 109, 112]⟩ : ByteArray)), .string a1] ?_; (with_reducible refine (gafferref02_Swap.calls kj18 _ _ t509 t512 t513 (a1 ++ (⟨#[46, 116, 109, 112]⟩ : ByteArray)) a1 t515 t518 t519 t520 _ ?side1 ?side2 A31.out).mono ?_); (case side1 => refine (Kd.R_reads' (e := 71) (base := w.heap.size) (ok := fun k_ => ((w.heap.size ≤ k_) ∧ True)) (n := t509.length) (c := co36) ?_).2.2; exact (by refine rq_ ?_; exact (Kd.R_mono (Kd.R_far (p := ⟨gb493, 2, none⟩) (Kd.R_far (p := ⟨gb493, 1, none⟩) (Kd.R_far (p := ⟨gb493, 0, none⟩) (Kd.R_types HO511.out BK493.out (by decide)) (fun _ hk => hk.2) (.slice Ao36 t509.length co36)) (fun _ hk => hk.2) (.bool t512)) (fun _ hk => hk.2) (.int .i64 t513)) (fun _ h_ => h_.1)))); (case side2 => exact (Kd.R_reads' HO511.out).2.1); rintro e w38 ⟨v516, rfl, ho0, hb⟩; refine ⟨_, rfl, ?_⟩; replace HO_494000 := a_ (Kd.V_elder' (by refine vq_ ?_; exact (Kd.V_mono (Kd.V_far (p := ⟨gb493, 2, none⟩) (Kd.V_far (p := ⟨gb493, 1, none⟩) (Kd.V_far (p := ⟨gb493, 0, none⟩) (Kd.V_mono HO_494000.out (fun k_ hk => (⟨hk, hk.1.2.1⟩ : _ ∧ k_ ≠ gb493))) (fun _ hk => hk.2) (.slice Ao36 t509.length co36)) (fun _ hk => hk.2) (.bool t512)) (fun _ hk => hk.2) (.int .i64 t513)) (fun _ h_ => h_.1))) (Kd.R_base ho0) hb); have HO517 := a_ (Kd.R_lower (Kd.R_new' (Kd.R_newM (M := fun k_ => (w.heap.size ≤ k_)) ho0 (below_size (bl_2 HB GE493 GE494)) (fun k_ h_ => h_)) (Kd.R_lt (by refine rq_ ?_; exact (Kd.R_mono (Kd.R_far (p := ⟨gb493, 2, none⟩) (Kd.R_far (p := ⟨gb493, 1, none⟩) (Kd.R_far (p := ⟨gb493, 0, none⟩) (Kd.R_types HO511.out BK493.out (by decide)) (fun _ hk => hk.2) (.slice Ao36 t509.length co36)) (fun _ hk => hk.2) (.bool t512)) (fun _ hk => hk.2) (.int .i64 t513)) (fun _ h_ => h_.1))))) (below_size (bl_2 HB GE493 GE494))); replace HO511 := a_ (Kd.R_elder' (by refine rq_ ?_; exact (Kd.R_mono (Kd.R_far (p := ⟨gb493, 2, none⟩) (Kd.R_far (p := ⟨gb493, 1, none⟩) (Kd.R_far (p := ⟨gb493, 0, none⟩) (Kd.R_types HO511.out BK493.out (by decide)) (fun _ hk => hk.2) (.slice Ao36 t509.length co36)) (fun _ hk => hk.2) (.bool t512)) (fun _ hk => hk.2) (.int .i64 t513)) (fun _ h_ => h_.1))) (Kd.R_base ho0) hb); replace BK493 := a_ (blk_below (g := gb493) (o := .cells #[.slice Ao36 t509.length co36, .bool t512, .int .i64 t513] 24 (0, 0)) (bp_0 BK493) hb); replace BK494 := a_ (blk_below (g := gb494) (o := .cells #[.slice none 0 0, .bool false, .int .i64 0] 24 (0, 0)) (bp_1 BK494 NB494_493) hb); replace HB := hB_ (bl_2 HB GE493 GE494) hb; (try clear hb); (try clear ho0); obtain ⟨Ao39, co39, eo39⟩ := Kd.R_slice HO517.out; subst eo39; obtain ⟨hcz40_0, hcz40_1, hcz40_2, hfz40_0, hfz40_1, hfz40_2⟩ := c3_ BK493; obtain ⟨hcz41_0, hcz41_1, hcz41_2, hfz41_0, hfz41_1, hfz41_2⟩ := c3_ BK494))
     refine bodyPost_ret (results_ct rfl _ _ gb494 24 #[.slice Ao39 t515.length co39, .bool t518, .int .i64 t519] (0, 0) _ rfl (bp_1 BK494 NB494_493) Try.underlying24 rfl (by kernel_rfl)) rfl ?_
     exact ⟨_, fz_, Kd.V_mono (ok := (fun k_ => ((w.heap.size ≤ k_)))) (Kd.R_V (by refine rq_ ?_; exact Kd.R_mono (Kd.R_far (p := ⟨gb494, 2, none⟩) (Kd.R_far (p := ⟨gb494, 1, none⟩) (Kd.R_far (p := ⟨gb494, 0, none⟩) (Kd.R_far (p := ⟨gb493, 2, none⟩) (Kd.R_far (p := ⟨gb493, 1, none⟩) (Kd.R_far (p := ⟨gb493, 0, none⟩) (Kd.R_types (Kd.R_types HO517.out BK493.out (by decide)) BK494.out (by decide)) (fun _ hk => hk.1.2) (.slice Ao39 t515.length co39)) (fun _ hk => hk.1.2) (.bool t518)) (fun _ hk => hk.1.2) (.int .i64 t519)) (fun _ hk => hk.2) (.slice Ao39 t515.length co39)) (fun _ hk => hk.2) (.bool t518)) (fun _ hk => hk.2) (.int .i64 t519)) (fun _ hk => hk.1.1.1.1))) (fun k_ hk => by first | exact ⟨(.inr (hk.1)), hk.2⟩ | exact (.inr (hk))), bl_2 HB GE493 GE494⟩
/-! ### gafferref04_Save: function 18 -/
def gafferref04_Save.j0 : Nat → Int → Bool → List (S71) → Bool → Int → Int → Int → Option ((List (S71)) × Bool × Int × Int)
 | 0, _, _, _, _, _, _, _ => none
 | k + 1, x6, x15, x522000, x522001, x522002, x523000, x523001 => if x15 = true then (some (([] : List (S71)), false, 0, x6)) else (if x6 = 0 then ((gafferref04_file.f k x523000 x523001).bind fun t526 => ((gafferref04_Put.f k x522000 x522001 x522002 (⟨#[104, 97, 114, 100]⟩ : ByteArray) t526).bind fun bt527 => (some (bt527.1, bt527.2.1, bt527.2.2.1, bt527.2.2.2)))) else ((gafferref02_Copy.f x522000 x522001 x522002).bind fun bt533 => (some (bt533.1, bt533.2.1, bt533.2.2, x6))))
def gafferref04_Save.f (k : Nat) (l0_0 : List (S71)) (a0_1 : Bool) (a0_2 : Int) (a1_0 : Int) (a1_1 : Int) : Option ((List (S71)) × Bool × Int × Int) := (gafferref04_Check.f a1_0 a1_1).bind fun t524 => (if t524 = 0 then (gafferref04_Save.j0 k t524 false l0_0 a0_1 a0_2 a1_0 a1_1) else ((gafferref02_Check.f k l0_0 a0_1 a0_2).bind fun t525 => (gafferref04_Save.j0 k t524 (t525 != 0) l0_0 a0_1 a0_2 a1_0 a1_1)))
theorem gafferref04_Save.mono_l : ∀ k, (∀ y0 y1 y2 y3 y4 y5 y6, LeO (gafferref04_Save.j0 k y0 y1 y2 y3 y4 y5 y6) (gafferref04_Save.j0 (k + 1) y0 y1 y2 y3 y4 y5 y6))
 | 0 => fun _ _ _ _ _ _ _ r h => by simp [gafferref04_Save.j0] at h
 | k + 1 => by
  have ih0 := gafferref04_Save.mono_l k
  ·intro y0 y1 y2 y3 y4 y5 y6
   unfold gafferref04_Save.j0
   repeat' with_reducible first | apply ih0 | apply gafferref02_Check.mono | apply gafferref04_Put.mono | apply gafferref04_file.mono | apply LeO.refl | apply LeO.none | apply LeO.ite | refine LeO.bind ?_ (fun _ => ?_)
theorem gafferref04_Save.mono : ∀ a0 a1 a2 a3 a4 k, LeO (gafferref04_Save.f k a0 a1 a2 a3 a4) (gafferref04_Save.f (k + 1) a0 a1 a2 a3 a4) := by
 intro a0 a1 a2 a3 a4 k
 have ih0 := gafferref04_Save.mono_l k
 unfold gafferref04_Save.f
 repeat' with_reducible first | apply ih0 | apply gafferref02_Check.mono | apply gafferref04_Put.mono | apply gafferref04_file.mono | apply LeO.refl | apply LeO.none | apply LeO.ite | refine LeO.bind ?_ (fun _ => ?_)
def gafferref04_Save.T6 : Bool × List (List Nat × List Nat) := (true, [([], []), ([], []), ([1], [1]), ([0, 2, 2], [0, 2]), ([3], [3]), ([3], [3]), ([4, 3, 0, 1, 2, 3, 4, 5], [4]), ([5, 6, 0, 1, 2, 3, 4, 5, 6], [5])])
def gafferref04_Save.B6 : List Nat := [0, 0, 2, 7, 15, 15, 63, 127]
theorem gafferref04_Save.tab6 : rtab .any (opsOf Try.f18 6) = gafferref04_Save.T6 := by kernel_rfl
theorem gafferref04_Save.bits6 : waitsOk gafferref04_Save.T6.2 gafferref04_Save.B6 = true := by kernel_rfl
theorem gafferref04_Save.calls (k : Nat) (P0_0_ : Nat → Prop) (A0_0 : Option Addr) (c0_0 : Nat) (l0_0 : List (S71)) (a0_1 : Bool) (a0_2 : Int) (a1_0 : Int) (a1_1 : Int) (r1 : List (S71)) (r2 : Bool) (r3 : Int) (r4 : Int) (w : World) (hs0_0 : Kd.V k71 71 w w.heap.size (fun k_ => P0_0_ k_) (.slice A0_0 l0_0.length c0_0) l0_0) (h : gafferref04_Save.f k l0_0 a0_1 a0_2 a1_0 a1_1 = some (r1, r2, r3, r4)) :
  Calls Try.prog 18 #[.agg #[.slice A0_0 l0_0.length c0_0, .bool a0_1, .int .i64 a0_2], .agg #[.int .u64 a1_0, .int .i64 a1_1]] w fun e w' => ∃ v0_ : Value, e = .returned (.tuple #[.agg #[v0_, .bool r2, .int .i64 r3], .int .i64 r4]) ∧ Kd.V k71 71 w' w.heap.size (fun k_ => (P0_0_ k_ ∨ w.heap.size ≤ k_)) v0_ r1 ∧ Below w.heap.size w w' := by
 have hu24 := Try.underlying24
 have hu27 := Try.underlying27
 have HO0_0 := a_ (show Kd.V k71 71 w w.heap.size (fun k_ => (P0_0_ k_ ∨ w.heap.size ≤ k_)) (.slice A0_0 l0_0.length c0_0) l0_0 from Kd.V_mono hs0_0 (fun k_ hk => .inl hk))
 have HB := a_ (Below.refl w.heap.size w)
 have H : ((gafferref04_Check.f a1_0 a1_1).bind fun t524 => (if t524 = 0 then (gafferref04_Save.j0 k t524 false l0_0 a0_1 a0_2 a1_0 a1_1) else ((gafferref02_Check.f k l0_0 a0_1 a0_2).bind fun t525 => (gafferref04_Save.j0 k t524 (t525 != 0) l0_0 a0_1 a0_2 a1_0 a1_1)))) = some (r1, r2, r3, r4) := h
 clear h
 obtain ⟨t524, A30, H⟩ := Option.bind_eq_some_iff.mp H
 try dsimp only at H
 have A3 := a_ A30
 clear A30
 have HC4 := a_ H
 clear H
 go_enter Try.func18, Try.ntmps18
 go_upto_region 2 with (first | ((with_reducible refine gd_ 2 ?_); refine bx_ 2 #[.slice A0_0 l0_0.length c0_0, .bool a0_1, .int .i64 a0_2] 24 ?_; intro gb521 hg w5 hbox hb; replace HO0_0 := a_ (Kd.V_below (Kd.V_elderB (by refine vq_ ?_; exact HO0_0.out) gb521 (Nat.le_of_eq hg.symm)) hb); have BK521 := a_ (hbox); have GE521 := a_ (bs_0 hg HB); replace HB := hB_ (bl_ HB) hb; clear hb hbox hg) | ((with_reducible refine gd_ 3 ?_); refine bx_ 3 #[.int .u64 a1_0, .int .i64 a1_1] 27 ?_; intro gb522 hg w6 hbox hb; replace HO0_0 := a_ (Kd.V_below (Kd.V_elderB (by refine vq_ ?_; exact HO0_0.out) gb522 (Nat.le_of_eq hg.symm)) hb); have BK522 := a_ (hbox); have GE522 := a_ (bs_1 hg HB GE521); replace HB := hB_ (bl_1 HB GE521) hb; have NB521_522 := nB_ hg BK521; have NB522_521 := nC_ hg BK521; replace BK521 := bB_ BK521 hb; clear hb hbox hg) | ((with_reducible refine gd_ 4 ?_); refine bx_ 4 #[.slice none 0 0, .bool false, .int .i64 0] 24 ?_; intro gb523 hg w7 hbox hb; replace HO0_0 := a_ (Kd.V_below (Kd.V_elderB (by refine vq_ ?_; exact HO0_0.out) gb523 (Nat.le_of_eq hg.symm)) hb); have BK523 := a_ (hbox); have GE523 := a_ (bs_2 hg HB GE521 GE522); replace HB := hB_ (bl_2 HB GE521 GE522) hb; have NB521_523 := nB_ hg BK521; have NB523_521 := nC_ hg BK521; replace BK521 := bB_ BK521 hb; have NB522_523 := nB_ hg BK522; have NB523_522 := nC_ hg BK522; replace BK522 := bB_ BK522 hb; clear hb hbox hg; have hnb8 := NB522_521.out; have hnc8 := NB521_522.out; have hnb9 := NB522_523.out; have hnc9 := NB523_522.out; obtain ⟨hcz10_0, hcz10_1, hfz10_0, hfz10_1⟩ := c2_ BK522) | ((with_reducible refine gk_ 22 ?_); refine gl_ (some 8) Try.func22 #[.agg #[.int .u64 a1_0, .int .i64 a1_1]] ?_; (with_reducible refine (gafferref04_Check.calls a1_0 a1_1 t524 _ A3.out).mono ?_); rintro e w11 ⟨rfl, hb⟩; refine ⟨_, rfl, ?_⟩; replace HO0_0 := a_ (Kd.V_below (by refine vq_ ?_; exact HO0_0.out) hb); replace BK521 := bB_ BK521 hb; replace BK522 := bB_ BK522 hb; replace BK523 := bB_ BK523 hb; replace HB := hB_ (bl_3 HB GE521 GE522 GE523) hb; (try clear hb)))
 (try simp only [Act.put, List.setIfInBounds_toArray, List.set_cons_zero, List.set_cons_succ])
 go_cut [15] (fun v15 wc => ∃ (kq : Nat) (x15_3 : Bool), v15 = .bool x15_3 ∧ Aside0 (gafferref04_Save.j0 kq t524 x15_3 l0_0 a0_1 a0_2 a1_0 a1_1 = some (r1, r2, r3, r4)) ∧ Aside0 (kq ≤ k) ∧ Aside0 (Kd.V k71 71 wc w.heap.size (fun k_ => (P0_0_ k_ ∨ w.heap.size ≤ k_) ∧ k_ ≠ gb521 ∧ k_ ≠ gb522 ∧ k_ ≠ gb523) (.slice A0_0 l0_0.length c0_0) l0_0) ∧ Aside0 (wc.heap[gb521]? = some (.cells #[(.slice A0_0 l0_0.length c0_0), .bool a0_1, .int .i64 a0_2] 24 (0, 0))) ∧ Aside0 (wc.heap[gb522]? = some (.cells #[.int .u64 a1_0, .int .i64 a1_1] 27 (0, 0))) ∧ Aside0 (wc.heap[gb523]? = some (.cells #[(.slice none 0 0), .bool false, .int .i64 0] 24 (0, 0))) ∧ Aside0 (Below w.heap.size w wc))
 case first =>
  have H := HC4.out
  clear HC4
  by_cases c12 : t524 = 0
  ·rw [if_pos c12] at H
   have c12b0 : (t524 == 0) = true := beq_iff_eq.mpr c12
   have c12b1 : (t524 != 0) = false := bne_eq_false_iff_eq.mpr c12
   clear c12
   (first | rw [c12b0] | (simp only [i64_w, i32_w]; rw [c12b0]) | skip)
   have H' := a_ H
   clear H
   go_wp2
   go_meet
   case rel => exact ⟨_, (false), fz_, H', ⟨by first | omega | exact Nat.le_refl _⟩, ⟨by refine vq_ ?_; exact Kd.V_mono HO0_0.out (fun _ hk => ⟨hk.1.1.1, ⟨hk.1.1.2, ⟨hk.1.2, hk.2⟩⟩⟩)⟩, ⟨bk_ BK521⟩, ⟨bk_ BK522⟩, ⟨bk_ BK523⟩, ⟨bl_3 HB GE521 GE522 GE523⟩⟩
  rw [if_neg c12] at H
  have c12b0 : (t524 == 0) = false := beq_eq_false_iff_ne.mpr c12
  have c12b1 : (t524 != 0) = true := bne_iff_ne.mpr c12
  (first | rw [c12b0] | (simp only [i64_w, i32_w]; rw [c12b0]) | skip)
  obtain ⟨t525, A130, H⟩ := Option.bind_eq_some_iff.mp H
  try dsimp only at H
  have A13 := a_ A130
  clear A130
  have H' := a_ H
  clear H
  have hnb14 := NB521_522.out
  have hnc14 := NB522_521.out
  have hnb15 := NB521_523.out
  have hnc15 := NB523_521.out
  obtain ⟨hcz16_0, hcz16_1, hcz16_2, hfz16_0, hfz16_1, hfz16_2⟩ := c3_ BK521
  go_wp2_with (first | (go_at_call 46; (with_reducible refine (gafferref02_Check.calls k _ _ l0_0 a0_1 a0_2 t525 _ ?side1 ?side2 A13.out).mono ?_); (case side1 => exact cl_ ((Kd.V_reads' HO0_0.out).2.2)); (case side2 => exact (Kd.V_reads' HO0_0.out).2.1); rintro e w17 ⟨rfl, hb⟩; replace HO0_0 := a_ (Kd.V_below (by refine vq_ ?_; exact HO0_0.out) hb); replace BK521 := bB_ BK521 hb; replace BK522 := bB_ BK522 hb; replace BK523 := bB_ BK523 hb; replace HB := hB_ (bl_3 HB GE521 GE522 GE523) hb; (try clear hb)))
  go_meet
  case rel => exact ⟨_, ((t525 != 0)), fz_, H', ⟨by first | omega | exact Nat.le_refl _⟩, ⟨by refine vq_ ?_; exact Kd.V_mono HO0_0.out (fun _ hk => ⟨hk.1.1.1, ⟨hk.1.1.2, ⟨hk.1.2, hk.2⟩⟩⟩)⟩, ⟨bk_ BK521⟩, ⟨bk_ BK522⟩, ⟨bk_ BK523⟩, ⟨bl_3 HB GE521 GE522 GE523⟩⟩
 case rest =>
  clear HC4
  try clear c1
  try clear c2
  try clear p2
  try clear c8
  try clear c9
  try clear c12
  try clear c12b0
  try clear c12b1
  try clear c14
  try clear c15
  obtain ⟨kq, x15_3, rfl, HA, HJ3, HO_522000, BK521, BK522, BK523, HB⟩ := hcut
  cases kq with
  | zero => exact absurd HA.out (by simp [gafferref04_Save.j0])
  | succ kj3 =>
   have H := HA.out
   clear HA
   simp only [gafferref04_Save.j0] at H
   by_cases c18 : x15_3 = true
   ·subst c18
    have H1 : (some (([] : List (S71)), false, 0, t524)) = some (r1, r2, r3, r4) := by rw [if_pos rfl] at H; exact H
    clear H
    have H := H1
    clear H1
    simp only [Option.some.injEq, Prod.mk.injEq] at H
    obtain ⟨rfl, rfl, rfl, rfl⟩ := H
    have hnb19 := NB523_521.out
    have hnc19 := NB521_523.out
    have hnb20 := NB523_522.out
    have hnc20 := NB522_523.out
    obtain ⟨hcz21_0, hcz21_1, hcz21_2, hfz21_0, hfz21_1, hfz21_2⟩ := c3_ BK523
    go_wp2
    refine bodyPost_ret (results_ct rfl _ _ gb523 24 #[.slice none 0 0, .bool false, .int .i64 0] (0, 0) _ rfl (bp_0 BK523) Try.underlying24 rfl (by kernel_rfl)) rfl ?_
    exact ⟨_, fz_, (Kd.V_nil _ _ _ _ _), bl_3 HB GE521 GE522 GE523⟩
   replace c18 := Bool.eq_false_iff.mpr c18
   subst c18
   have H1 : (if t524 = 0 then ((gafferref04_file.f kj3 a1_0 a1_1).bind fun t526 => ((gafferref04_Put.f kj3 l0_0 a0_1 a0_2 (⟨#[104, 97, 114, 100]⟩ : ByteArray) t526).bind fun bt527 => (some (bt527.1, bt527.2.1, bt527.2.2.1, bt527.2.2.2)))) else ((gafferref02_Copy.f l0_0 a0_1 a0_2).bind fun bt533 => (some (bt533.1, bt533.2.1, bt533.2.2, t524)))) = some (r1, r2, r3, r4) := by rw [if_neg (show ¬ (false = true) by decide)] at H; exact H
   clear H
   have H := H1
   clear H1
   by_cases c22 : t524 = 0
   rotate_left
   ·rw [if_neg c22] at H
    have c22b0 : (t524 == 0) = false := beq_eq_false_iff_ne.mpr c22
    have c22b1 : (t524 != 0) = true := bne_iff_ne.mpr c22
    obtain ⟨⟨t533, t536, t537⟩, A320, H⟩ := Option.bind_eq_some_iff.mp H
    try dsimp only at H
    have A32 := a_ A320
    clear A320
    simp only [Option.some.injEq, Prod.mk.injEq] at H
    obtain ⟨rfl, rfl, rfl, rfl⟩ := H
    have hnb33 := NB521_522.out
    have hnc33 := NB522_521.out
    have hnb34 := NB521_523.out
    have hnc34 := NB523_521.out
    obtain ⟨hcz35_0, hcz35_1, hcz35_2, hfz35_0, hfz35_1, hfz35_2⟩ := c3_ BK521
    go_wp2_with (first | ((with_reducible refine gk_ 14 ?_); refine gl_ (some 21) Try.func14 #[.agg #[.slice A0_0 l0_0.length c0_0, .bool a0_1, .int .i64 a0_2]] ?_; (with_reducible refine (gafferref02_Copy.calls _ _ l0_0 a0_1 a0_2 t533 t536 t537 _ ?side1 ?side2 A32.out).mono ?_); (case side1 => exact cl_ ((Kd.V_reads' HO_522000.out).2.2)); (case side2 => exact (Kd.V_reads' HO_522000.out).2.1); rintro e w36 ⟨v534, rfl, ho0, hb⟩; refine ⟨_, rfl, ?_⟩; replace HO_522000 := a_ (Kd.V_elder' (by refine vq_ ?_; exact HO_522000.out) (Kd.R_base ho0) hb); have HO535 := a_ (Kd.R_lower (Kd.R_newM (M := fun k_ => (w.heap.size ≤ k_)) ho0 (below_size (bl_3 HB GE521 GE522 GE523)) (fun k_ h_ => h_)) (below_size (bl_3 HB GE521 GE522 GE523))); replace BK521 := bB_ BK521 hb; replace BK522 := bB_ BK522 hb; replace BK523 := bB_ BK523 hb; replace HB := hB_ (bl_3 HB GE521 GE522 GE523) hb; (try clear hb); (try clear ho0); obtain ⟨Ao37, co37, eo37⟩ := Kd.R_slice HO535.out; subst eo37; have hnb38 := NB523_522.out; have hnc38 := NB522_523.out; obtain ⟨hcz39_0, hcz39_1, hcz39_2, hfz39_0, hfz39_1, hfz39_2⟩ := c3_ BK523))
    refine bodyPost_ret (results_ct rfl _ _ gb523 24 #[.slice Ao37 t533.length co37, .bool t536, .int .i64 t537] (0, 0) _ rfl (bp_0 BK523) Try.underlying24 rfl (by kernel_rfl)) rfl ?_
    exact ⟨_, fz_, Kd.V_mono (ok := (fun k_ => ((w.heap.size ≤ k_)))) (Kd.R_V (by refine rq_ ?_; exact Kd.R_mono (Kd.R_far (p := ⟨gb523, 2, none⟩) (Kd.R_far (p := ⟨gb523, 1, none⟩) (Kd.R_far (p := ⟨gb523, 0, none⟩) (Kd.R_types HO535.out BK523.out (by decide)) (fun _ hk => hk.2) (.slice Ao37 t533.length co37)) (fun _ hk => hk.2) (.bool t536)) (fun _ hk => hk.2) (.int .i64 t537)) (fun _ hk => hk.1.1))) (fun k_ hk => by first | exact ⟨(.inr (hk.1)), hk.2⟩ | exact (.inr (hk))), bl_3 HB GE521 GE522 GE523⟩


   rw [if_pos c22] at H
   have c22b0 : (t524 == 0) = true := beq_iff_eq.mpr c22
   have c22b1 : (t524 != 0) = false := bne_eq_false_iff_eq.mpr c22
   clear c22
   obtain ⟨t526, A230, H⟩ := Option.bind_eq_some_iff.mp H
   try dsimp only at H
   have A23 := a_ A230
   clear A230
   obtain ⟨⟨t527, t530, t531, t532⟩, A240, H⟩ := Option.bind_eq_some_iff.mp H
   try dsimp only at H
   have A24 := a_ A240
   clear A240
   simp only [Option.some.injEq, Prod.mk.injEq] at H
   obtain ⟨rfl, rfl, rfl, rfl⟩ := H
   try go_wp2
   have n0_ := a_ (Kd.V_drew HO_522000.out)
   have n1_ := a_ (blk_drew BK521.out)
   have n2_ := a_ (blk_drew BK522.out)
   have n3_ := a_ (blk_drew BK523.out)
   have n4_ := a_ (below_drew1 HB.out)
   clear HO_522000
   clear BK521
   clear BK522
   clear BK523
   clear HB
   have HO_522000 := n0_
   have BK521 := n1_
   have BK522 := n2_
   have BK523 := n3_
   have HB := n4_
   clear n0_ n1_ n2_ n3_ n4_
   refine start_ (n := 8) (S := fun w' => w'.cell? ⟨gb521, 0, none⟩ = some (.slice A0_0 l0_0.length c0_0) ∧ w'.cell? ⟨gb521, 1, none⟩ = some (.bool a0_1) ∧ w'.cell? ⟨gb521, 2, none⟩ = some (.int .i64 a0_2) ∧ w'.cell? ⟨gb522, 0, none⟩ = some (.int .u64 a1_0) ∧ w'.cell? ⟨gb522, 1, none⟩ = some (.int .i64 a1_1)) (ds := []) #[false, false, false, false, false, false, false, false] (by kernel_rfl) rfl rfl ⟨(blk_cell BK521.out 0).trans rfl, (blk_cell BK521.out 1).trans rfl, (blk_cell BK521.out 2).trans rfl, (blk_cell BK522.out 0).trans rfl, (blk_cell BK522.out 1).trans rfl⟩ (fun hHeld => ?_); refine with_tabW gafferref04_Save.tab6 gafferref04_Save.bits6 (fun HT_ HW_ => ?_)
   generalize wc.drew = w25 at HO_522000 BK521 BK522 BK523 HB hHeld ⊢
   refine take_ (i := 0) (N := some 23) (v := ?_) (a' := ?_) #[true, false, false, false, false, false, false, false] rfl rfl (take_ofW HT_.out HW_.out (by kernel_rfl)) (fun _ _ _ h => h) (Or.inl ⟨by rfl, ?_⟩) hHeld ?_ ?_
   rotate_left
   ·rintro w' ⟨s0, s1, s2, s3, s4⟩
    go_simp
    with_reducible rfl
   rotate_left
   ·exact ap_
   refine take_ (i := 1) (N := some 24) (v := ?_) (a' := ?_) #[true, true, false, false, false, false, false, false] rfl rfl (take_ofW HT_.out HW_.out (by kernel_rfl)) (fun _ _ _ h => h) (Or.inl ⟨by rfl, ?_⟩) hHeld ?_ ?_
   rotate_left
   ·rintro w' ⟨s0, s1, s2, s3, s4⟩
    go_simp
    with_reducible rfl
   rotate_left
   ·exact ap_
   refine one_ (i := 2) (N := some 25) #[true, true, true, false, false, false, false, false] rfl rfl (one_of HT_.out (by kernel_rfl)) (by decide) (fun K hK => ?_)
   refine goes_ Try.func44 (by kernel_rfl) rfl #[.agg #[.int .u64 a1_0, .int .i64 a1_1]] (by rfl) rfl rfl (ar_) ?_
   with_reducible refine (gafferref04_file.calls kj3 a1_0 a1_1 t526 _ A23.out).mono ?_
   rintro e w26 ⟨rfl, hb⟩
   refine ⟨_, rfl, ?_⟩
   have n0_ := a_ (Kd.V_below (by refine vq_ ?_; exact HO_522000.out) hb)
   have n1_ := bB_ BK521 hb
   have n2_ := bB_ BK522 hb
   have n3_ := bB_ BK523 hb
   have n4_ := hB_ (bl_3 HB GE521 GE522 GE523) hb
   clear HO_522000
   clear BK521
   clear BK522
   clear BK523
   clear HB
   have HO_522000 := n0_
   have BK521 := n1_
   have BK522 := n2_
   have BK523 := n3_
   have HB := n4_
   clear n0_ n1_ n2_ n3_ n4_
   (try clear hb)
   (try clear hb2)
   (try clear hk)
   (try clear hi)
   refine hK.out _ _ ⟨(blk_cell BK521.out 0).trans rfl, (blk_cell BK521.out 1).trans rfl, (blk_cell BK521.out 2).trans rfl, (blk_cell BK522.out 0).trans rfl, (blk_cell BK522.out 1).trans rfl⟩ (fun hHeld => ?_)
   clear hK K
   refine norm_ (a' := ?_) ?_ ?_
   rotate_left
   ·show Act.put _ (some 25) _ = _
    simp only [Act.put, List.setIfInBounds_toArray, List.set_cons_zero, List.set_cons_succ, i64_w, i32_w]
    rfl
   refine one_ (i := 3) (N := some 26) #[true, true, true, true, false, false, false, false] rfl rfl (one_of HT_.out (by kernel_rfl)) (by decide) (fun K hK => ?_)
   refine goes_ Try.func47 (by kernel_rfl) rfl #[.agg #[.slice A0_0 l0_0.length c0_0, .bool a0_1, .int .i64 a0_2], .string (⟨#[104, 97, 114, 100]⟩ : ByteArray), .string t526] (by rfl) rfl rfl (ar_) ?_
   with_reducible refine (gafferref04_Put.calls kj3 (fun k_ => ((P0_0_ k_ ∨ w.heap.size ≤ k_) ∧ (k_ ≠ gb521 ∧ (k_ ≠ gb522 ∧ k_ ≠ gb523)))) _ _ l0_0 a0_1 a0_2 (⟨#[104, 97, 114, 100]⟩ : ByteArray) t526 t527 t530 t531 t532 _ ?side1 A24.out).mono ?_
   (case side1 => exact HO_522000.out)
   rintro e w27 ⟨v528, rfl, ho0, hb⟩
   refine ⟨_, rfl, ?_⟩
   have n0_ := a_ (Kd.V_below (by refine vq_ ?_; exact HO_522000.out) hb)
   have n1_ := a_ (Kd.V_lower (Kd.V_mono (ok' := fun k_ => (P0_0_ k_ ∨ w.heap.size ≤ k_) ∧ k_ ≠ gb521 ∧ k_ ≠ gb522 ∧ k_ ≠ gb523) ho0 (fun k_ hk_ => ⟨Or.elim hk_ (fun hs_ => hs_.1) (fun hn_ => (.inr (Nat.le_trans (below_size (bl_3 HB GE521 GE522 GE523)) hn_))), Or.elim hk_ (fun hs_ => hs_.2.1) (fun hn_ => (Kd.freshB (g := gb521) (o := .cells #[.slice A0_0 l0_0.length c0_0, .bool a0_1, .int .i64 a0_2] 24 (0, 0)) (bk_ BK521) k_ hn_)), Or.elim hk_ (fun hs_ => hs_.2.2.1) (fun hn_ => (Kd.freshB (g := gb522) (o := .cells #[.int .u64 a1_0, .int .i64 a1_1] 27 (0, 0)) (bk_ BK522) k_ hn_)), Or.elim hk_ (fun hs_ => hs_.2.2.2) (fun hn_ => (Kd.freshB (g := gb523) (o := .cells #[.slice none 0 0, .bool false, .int .i64 0] 24 (0, 0)) (bk_ BK523) k_ hn_))⟩)) (below_size (bl_3 HB GE521 GE522 GE523)))
   have n2_ := bB_ BK521 hb
   have n3_ := bB_ BK522 hb
   have n4_ := bB_ BK523 hb
   have n5_ := hB_ (bl_3 HB GE521 GE522 GE523) hb
   clear HO_522000
   clear BK521
   clear BK522
   clear BK523
   clear HB
   have HO_522000 := n0_
   have HO529 := n1_
   have BK521 := n2_
   have BK522 := n3_
   have BK523 := n4_
   have HB := n5_
   clear n0_ n1_ n2_ n3_ n4_ n5_
   (try clear hb)
   (try clear hb2)
   (try clear hk)
   (try clear hi)
   (try clear ho0)
   obtain ⟨Ao28, co28, eo28⟩ := Kd.V_slice HO529.out
   (first | subst eo28 | (injection eo28 with f1_ f2_ f3_; have f4_ := f1_.symm; have f5_ := f3_.symm; clear f1_ f2_ f3_; subst f4_; subst f5_))
   refine hK.out _ _ ⟨(blk_cell BK521.out 0).trans rfl, (blk_cell BK521.out 1).trans rfl, (blk_cell BK521.out 2).trans rfl, (blk_cell BK522.out 0).trans rfl, (blk_cell BK522.out 1).trans rfl⟩ (fun hHeld => ?_)
   clear hK K
   refine norm_ (a' := ?_) ?_ ?_
   rotate_left
   ·show Act.put _ (some 26) _ = _
    simp only [Act.put, List.setIfInBounds_toArray, List.set_cons_zero, List.set_cons_succ, i64_w, i32_w]
    rfl
   refine pu_ HT_ 4 (some 27) ?_
   refine pu_ HT_ 5 (some 28) ?_
   refine one_ (i := 6) (N := none) #[true, true, true, true, true, true, true, false] rfl rfl (one_of HT_.out (by kernel_rfl)) (by decide) (fun K hK => ?_)
   have hs29 : w27.cell? ⟨gb523, 0, none⟩ = some (.slice none 0 0) := (blk_cell BK523.out 0).trans rfl
   have hfs29 := blk_frozen BK523.out 0
   have hns29_0 := NB521_523.out
   have hns29_1 := NB522_523.out
   have hms29_0 := NB523_521.out
   have hms29_1 := NB523_522.out
   have hs30 : w27.cell? ⟨gb523, 1, none⟩ = some (.bool false) := (blk_cell BK523.out 1).trans rfl
   have hfs30 := blk_frozen BK523.out 1
   have hns30_0 := NB521_523.out
   have hns30_1 := NB522_523.out
   have hms30_0 := NB523_521.out
   have hms30_1 := NB523_522.out
   have hs31 : w27.cell? ⟨gb523, 2, none⟩ = some (.int .i64 0) := (blk_cell BK523.out 2).trans rfl
   have hfs31 := blk_frozen BK523.out 2
   have hns31_0 := NB521_523.out
   have hns31_1 := NB522_523.out
   have hms31_0 := NB523_521.out
   have hms31_1 := NB523_522.out
   refine skip_ (w1 := ?_) (by rfl) rfl ?_ ?_
   rotate_left
   ·go_simp
    rfl
   refine hK.out _ _ ⟨((cell_far (p := ⟨gb523, _, none⟩) NB521_523.out _).trans (((cell_far (p := ⟨gb523, _, none⟩) NB521_523.out _).trans (((cell_far (p := ⟨gb523, _, none⟩) NB521_523.out _).trans (hHeld.1)))))), ((cell_far (p := ⟨gb523, _, none⟩) NB521_523.out _).trans (((cell_far (p := ⟨gb523, _, none⟩) NB521_523.out _).trans (((cell_far (p := ⟨gb523, _, none⟩) NB521_523.out _).trans (hHeld.2.1)))))), ((cell_far (p := ⟨gb523, _, none⟩) NB521_523.out _).trans (((cell_far (p := ⟨gb523, _, none⟩) NB521_523.out _).trans (((cell_far (p := ⟨gb523, _, none⟩) NB521_523.out _).trans (hHeld.2.2.1)))))), ((cell_far (p := ⟨gb523, _, none⟩) NB522_523.out _).trans (((cell_far (p := ⟨gb523, _, none⟩) NB522_523.out _).trans (((cell_far (p := ⟨gb523, _, none⟩) NB522_523.out _).trans (hHeld.2.2.2.1)))))), ((cell_far (p := ⟨gb523, _, none⟩) NB522_523.out _).trans (((cell_far (p := ⟨gb523, _, none⟩) NB522_523.out _).trans (((cell_far (p := ⟨gb523, _, none⟩) NB522_523.out _).trans (hHeld.2.2.2.2))))))⟩ (fun hHeld => ?_)
   clear hK K
   refine pu_ HT_ 7 (some 5) ?_
   refine done_ (done_of HT_.out (by kernel_rfl)) ?_
   try go_wp2
   refine bodyPost_ret (results_ct rfl _ _ gb523 24 #[.slice Ao28 t527.length co28, .bool t530, .int .i64 t531] (0, 0) _ rfl (bp_0 BK523) Try.underlying24 rfl (by kernel_rfl)) rfl ?_
   exact ⟨_, fz_, by refine vq_ ?_; exact Kd.V_mono (Kd.V_far (p := ⟨gb523, 2, none⟩) (Kd.V_far (p := ⟨gb523, 1, none⟩) (Kd.V_far (p := ⟨gb523, 0, none⟩) (Kd.V_mono HO529.out (fun k_ hk => (⟨hk, hk.2.2.2⟩ : _ ∧ k_ ≠ gb523))) (fun _ hk => hk.2) (.slice Ao28 t527.length co28)) (fun _ hk => hk.2) (.bool t530)) (fun _ hk => hk.2) (.int .i64 t531)) (fun _ hk => hk.1.1), bl_3 HB GE521 GE522 GE523⟩end Go.Proofs.Ytpigjmjbfpipnaa.PD
