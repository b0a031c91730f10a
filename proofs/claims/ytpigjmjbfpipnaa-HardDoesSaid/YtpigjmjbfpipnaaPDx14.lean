-- By a program of this session.
import Derived.Test.YtpigjmjbfpipnaaPDx0
import Derived.Test.YtpigjmjbfpipnaaPDx3
import Derived.Test.YtpigjmjbfpipnaaPDx6
import Derived.Test.YtpigjmjbfpipnaaPDx13
namespace Go.Proofs.Ytpigjmjbfpipnaa.PD
open Go.RowKit YtpigjmjbfpipnaaW.PrintWords YtpigjmjbfpipnaaW.PrintLast YtpigjmjbfpipnaaW.PrintMore Sh Ytpigjmjbfpipnaa.Op
attribute [local go_sem] max2_int min2_int max_two min_two max_three min_three max_four min_four
set_option linter.unusedVariables false
set_option maxHeartbeats 80000000
set_option maxRecDepth 100000
set_option linter.unusedSimpArgs false

def gafferref02_without.l0 : Nat → ByteArray → List (S71) → List (S71) → Int → Int → List (S71) → Bool → Int → Option ((List (S71)) × Bool × Int)
 | 0, _, _, _, _, _, _, _, _ => none
 | k + 1, x1, x5, x9, x10, x11, x352000, x352001, x352002 => if x11 < x10 then (if 0 ≤ x11 then (if x11 < (x9.length : Int) then (if ((rd_T71 x9 x11).f0).toList = x1.toList then (gafferref02_without.l0 k x1 x5 x9 x10 (wrap64 (x11 + 1)) x352000 x352001 x352002) else (if x5.length < 3518437208883 then (gafferref02_without.l0 k x1 (x5 ++ [(⟨(rd_T71 x9 x11).f0, (rd_T71 x9 x11).f1, (rd_T71 x9 x11).f2⟩ : S71)]) x9 x10 (wrap64 (x11 + 1)) x352000 x352001 x352002) else (none))) else (none)) else (none)) else (some (x5, x352001, x352002))
def gafferref02_without.f (k : Nat) (l0_0 : List (S71)) (a0_1 : Bool) (a0_2 : Int) (a1 : ByteArray) : Option ((List (S71)) × Bool × Int) := gafferref02_without.l0 k a1 ([] : List (S71)) l0_0 (l0_0.length : Int) 0 l0_0 a0_1 a0_2
theorem gafferref02_without.mono_l : ∀ k, (∀ y0 y1 y2 y3 y4 y5 y6 y7, LeO (gafferref02_without.l0 k y0 y1 y2 y3 y4 y5 y6 y7) (gafferref02_without.l0 (k + 1) y0 y1 y2 y3 y4 y5 y6 y7))
 | 0 => fun _ _ _ _ _ _ _ _ r h => by simp [gafferref02_without.l0] at h
 | k + 1 => by
  have ih0 := gafferref02_without.mono_l k
  ·intro y0 y1 y2 y3 y4 y5 y6 y7
   unfold gafferref02_without.l0
   repeat' with_reducible first | apply ih0 | apply LeO.refl | apply LeO.none | apply LeO.ite | refine LeO.bind ?_ (fun _ => ?_)
theorem gafferref02_without.mono : ∀ a0 a1 a2 a3 k, LeO (gafferref02_without.f k a0 a1 a2 a3) (gafferref02_without.f (k + 1) a0 a1 a2 a3) := by
 intro a0 a1 a2 a3 k
 have ih0 := gafferref02_without.mono_l k
 unfold gafferref02_without.f
 repeat' with_reducible first | apply ih0 | apply LeO.refl | apply LeO.none | apply LeO.ite | refine LeO.bind ?_ (fun _ => ?_)
theorem gafferref02_without.calls (k : Nat) (A0_0 : Option Addr) (c0_0 : Nat) (l0_0 : List (S71)) (a0_1 : Bool) (a0_2 : Int) (a1 : ByteArray) (r1 : List (S71)) (r2 : Bool) (r3 : Int) (w : World) (hr0_0 : Kd.C k71 w A0_0 l0_0.length l0_0) (hc0_0 : l0_0.length ≤ c0_0) (h : gafferref02_without.f k l0_0 a0_1 a0_2 a1 = some (r1, r2, r3)) :
  Calls Try.prog 100 #[.agg #[.slice A0_0 l0_0.length c0_0, .bool a0_1, .int .i64 a0_2], .string a1] w fun e w' => ∃ v0_ : Value, e = .returned (.agg #[v0_, .bool r2, .int .i64 r3]) ∧ Kd.R k71 71 w' w.heap.size (fun _ => True) v0_ r1 ∧ Below w.heap.size w w' := by
 have hu24 := Try.underlying24
 have hu71 := Try.underlying71
 have HR0_0 := a_ hr0_0
 have HC0_0 := a_ hc0_0
 clear hr0_0 hc0_0
 have HB := a_ (Below.refl w.heap.size w)
 have H : (gafferref02_without.l0 k a1 ([] : List (S71)) l0_0 (l0_0.length : Int) 0 l0_0 a0_1 a0_2) = some (r1, r2, r3) := h
 clear h
 have H' := a_ H
 clear H
 go_enter Try.func100, Try.ntmps100
 go_wp2_with (first | ((with_reducible refine gd_ 2 ?_); refine bx_ 2 #[.slice A0_0 l0_0.length c0_0, .bool a0_1, .int .i64 a0_2] 24 ?_; intro gb351 hg w3 hbox hb; have BK351 := a_ (hbox); have GE351 := a_ (bs_0 hg HB); replace HB := hB_ (bl_ HB) hb; clear hb hbox hg) | ((with_reducible refine gd_ 4 ?_); refine bx_ 4 #[.slice none 0 0, .bool false, .int .i64 0] 24 ?_; intro gb352 hg w4 hbox hb; have BK352 := a_ (hbox); have GE352 := a_ (bs_1 hg HB GE351); replace HB := hB_ (bl_1 HB GE351) hb; have NB351_352 := nB_ hg BK351; have NB352_351 := nC_ hg BK351; replace BK351 := bB_ BK351 hb; clear hb hbox hg; have hnb5 := NB351_352.out; have hnc5 := NB352_351.out; obtain ⟨hcz6_0, hcz6_1, hcz6_2, hfz6_0, hfz6_1, hfz6_2⟩ := c3_ BK351))
 go_loopg [5, 11] k (fun kq v5 v11 w' => ∃ (x5_1 : List (S71)) (x11_1 : Int), v11 = .int .i64 x11_1 ∧ Aside0 (gafferref02_without.l0 kq a1 x5_1 l0_0 (l0_0.length : Int) x11_1 l0_0 a0_1 a0_2 = some (r1, r2, r3)) ∧ Aside0 (kq ≤ k) ∧ Aside0 (Kd.R k71 71 w' w.heap.size (fun _ => True) v5 x5_1) ∧ Aside0 (w'.heap[gb351]? = some (.cells #[(.slice A0_0 l0_0.length c0_0), .bool a0_1, .int .i64 a0_2] 24 (0, 0))) ∧ Aside0 (w'.heap[gb352]? = some (.cells #[(.slice none 0 0), .bool false, .int .i64 0] 24 (0, 0))) ∧ Aside0 (Below w.heap.size w w'))
 case atStart => exact ⟨(([] : List (S71))), (0), fz_, H', ⟨Nat.le_refl _⟩, ⟨by first | exact Kd.R_nil _ _ _ _ _ | exact Kd.N_nil _ _ _ _ _ | exact Kd.V_nil _ _ _ _ _ | exact Kd.Q_nil _ _ _ _ _ | exact Kd.S_nil _ _ _ _ _⟩, ⟨bk_ BK351⟩, ⟨bk_ BK352⟩, ⟨bl_2 HB GE351 GE352⟩⟩
 case round =>
  clear H'
  try clear c1
  try clear p2
  try clear c5
  obtain ⟨x5_1, x11_1, rfl, HA, HK1, HO_5, BK351, BK352, HB⟩ := hrel
  cases gk with
  | zero => exact absurd HA.out (by simp [gafferref02_without.l0])
  | succ k1 =>
   have H := HA.out
   clear HA
   simp only [gafferref02_without.l0] at H
   by_cases c7 : x11_1 < (l0_0.length : Int)
   rotate_left
   ·rw [if_neg c7] at H
    have c7b0 : decide (x11_1 < (l0_0.length : Int)) = false := decide_eq_false c7
    clear c7
    simp only [Option.some.injEq, Prod.mk.injEq] at H
    obtain ⟨rfl, rfl, rfl⟩ := H
    obtain ⟨Ao21, co21, eo21⟩ := Kd.R_slice HO_5.out
    subst eo21
    have hnb22 := NB351_352.out
    have hnc22 := NB352_351.out
    obtain ⟨hcz23_0, hcz23_1, hcz23_2, hfz23_0, hfz23_1, hfz23_2⟩ := c3_ BK351
    obtain ⟨hcz24_0, hcz24_1, hcz24_2, hfz24_0, hfz24_1, hfz24_2⟩ := c3_ BK352
    go_wp2
    refine bodyPost_ret (results_cell_row rfl _ _ gb352 24 #[.slice Ao21 x5_1.length co21, .bool a0_1, .int .i64 a0_2] (0, 0) _ rfl (bp_1 BK352 NB352_351) Try.underlying24 rfl (by kernel_rfl)) rfl ?_
    exact ⟨_, fz_, by refine rq_ ?_; exact Kd.R_mono (Kd.R_far (p := ⟨gb352, 2, none⟩) (Kd.R_far (p := ⟨gb352, 1, none⟩) (Kd.R_far (p := ⟨gb352, 0, none⟩) (Kd.R_far (p := ⟨gb351, 0, none⟩) (Kd.R_types (Kd.R_types HO_5.out BK351.out (by decide)) BK352.out (by decide)) (fun _ hk => hk.1.2) (.slice Ao21 x5_1.length co21)) (fun _ hk => hk.2) (.slice Ao21 x5_1.length co21)) (fun _ hk => hk.2) (.bool a0_1)) (fun _ hk => hk.2) (.int .i64 a0_2)) (fun _ hk => trivial), bl_2 HB GE351 GE352⟩


   rw [if_pos c7] at H
   have c7b0 : decide (x11_1 < (l0_0.length : Int)) = true := decide_eq_true c7
   clear c7
   by_cases c8 : 0 ≤ x11_1
   rotate_left
   ·rw [if_neg c8] at H
    exact absurd H (by simp)
   rw [if_pos c8] at H
   have c8b0 : decide (0 ≤ x11_1) = true := decide_eq_true c8
   clear c8
   by_cases c9 : x11_1 < (l0_0.length : Int)
   rotate_left
   ·rw [if_neg c9] at H
    exact absurd H (by simp)
   rw [if_pos c9] at H
   have c9b0 : decide (x11_1 < (l0_0.length : Int)) = true := decide_eq_true c9
   clear c9
   by_cases c10 : ((rd_T71 l0_0 x11_1).f0).toList = a1.toList
   ·rw [if_pos c10] at H
    have c10b0 : (((rd_T71 l0_0 x11_1).f0).toList == a1.toList) = true := beq_iff_eq.mpr c10
    have c10b1 : (((rd_T71 l0_0 x11_1).f0).toList != a1.toList) = false := bne_eq_false_iff_eq.mpr c10
    clear c10
    have H' := a_ H
    clear H
    have p353 : 0 ≤ (x11_1 : Int) := od_
    have q353 : x11_1 < (l0_0.length : Int) := od_
    obtain ⟨ad353, e353, hx353_0, hx353_1, hx353_2⟩ := at_T71 HR0_0.out x11_1 p353 q353
    cases e353
    replace hx353_0 := hc_ HB hx353_0
    replace hx353_1 := hc_ HB hx353_1
    replace hx353_2 := hc_ HB hx353_2
    replace p353 := eq_true p353
    replace q353 := eq_true q353
    go_wp2_with (first | ((with_reducible refine gd_ 7 ?_); refine bx_ 7 #[.string (⟨#[]⟩ : ByteArray), .string (⟨#[]⟩ : ByteArray), .int .i64 0] 71 ?_; intro gb354 hg w11 hbox hb; replace HO_5 := a_ (Kd.R_below (Kd.R_elderB (by refine rq_ ?_; exact HO_5.out) gb354 (Nat.le_of_eq hg.symm)) hb); have BK354 := a_ (hbox); have GE354 := a_ (bs_2 hg HB GE351 GE352); replace HB := hB_ (bl_2 HB GE351 GE352) hb; have NB351_354 := nB_ hg BK351; have NB354_351 := nC_ hg BK351; replace BK351 := bB_ BK351 hb; have NB352_354 := nB_ hg BK352; have NB354_352 := nC_ hg BK352; replace BK352 := bB_ BK352 hb; clear hb hbox hg; have hnb12 := NB354_351.out; have hnc12 := NB351_354.out; have hnb13 := NB354_352.out; have hnc13 := NB352_354.out; obtain ⟨hcz14_0, hcz14_1, hcz14_2, hfz14_0, hfz14_1, hfz14_2⟩ := c3_ BK354))
    go_roundg k1
    case measure => have := HK1.out; omega
    case rel => exact ⟨(x5_1), (wrap64 (x11_1 + 1)), fz_, H', ⟨by have := HK1.out; omega⟩, ⟨by refine rq_ ?_; exact Kd.R_mono (Kd.R_far (p := ⟨gb354, 2, none⟩) (Kd.R_far (p := ⟨gb354, 1, none⟩) (Kd.R_far (p := ⟨gb354, 0, none⟩) (Kd.R_mono HO_5.out (fun k_ hk => (⟨hk, hk.2⟩ : _ ∧ k_ ≠ gb354))) (fun _ hk => hk.2) (.string ((rd_T71 l0_0 x11_1).f0))) (fun _ hk => hk.2) (.string ((rd_T71 l0_0 x11_1).f1))) (fun _ hk => hk.2) (.int .i64 ((rd_T71 l0_0 x11_1).f2))) (fun _ hk => trivial)⟩, ⟨by refine bq_ ?_; refine blk_far ?_ NB351_354.out _; refine bq_ ?_; refine blk_far ?_ NB351_354.out _; refine bq_ ?_; refine blk_far ?_ NB351_354.out _; refine bq_ ?_; exact BK351.out⟩, ⟨by refine bq_ ?_; refine blk_far ?_ NB352_354.out _; refine bq_ ?_; refine blk_far ?_ NB352_354.out _; refine bq_ ?_; refine blk_far ?_ NB352_354.out _; refine bq_ ?_; exact BK352.out⟩, ⟨bl_3 HB GE351 GE352 GE354⟩⟩
   rw [if_neg c10] at H
   have c10b0 : (((rd_T71 l0_0 x11_1).f0).toList == a1.toList) = false := beq_eq_false_iff_ne.mpr c10
   have c10b1 : (((rd_T71 l0_0 x11_1).f0).toList != a1.toList) = true := bne_iff_ne.mpr c10
   by_cases c15 : x5_1.length < 3518437208883
   rotate_left
   ·rw [if_neg c15] at H
    exact absurd H (by simp)
   rw [if_pos c15] at H
   have LMc15 := a_ c15
   clear c15
   obtain ⟨y355, hy355⟩ : ∃ y_ : List (S71), y_ = (x5_1 ++ [(⟨(rd_T71 l0_0 x11_1).f0, (rd_T71 l0_0 x11_1).f1, (rd_T71 l0_0 x11_1).f2⟩ : S71)]) := ⟨_, rfl⟩
   replace H : (gafferref02_without.l0 k1 a1 y355 l0_0 (l0_0.length : Int) (wrap64 (x11_1 + 1)) l0_0 a0_1 a0_2) = some (r1, r2, r3) := by first | (rw [hy355]; with_reducible exact H) | (have H2_ := (Option.bind_some _ _).symm.trans H; rw [hy355]; with_reducible exact H2_) | (have H2_ := (Option.bind_some _ _).symm.trans H; with_reducible exact H2_) | with_reducible exact H | (rw [hy355]; exact H) | exact H
   have Ny355 := a_ hy355
   clear hy355
   have H' := a_ H
   clear H
   have p353 : 0 ≤ (x11_1 : Int) := od_
   have q353 : x11_1 < (l0_0.length : Int) := od_
   obtain ⟨ad353, e353, hx353_0, hx353_1, hx353_2⟩ := at_T71 HR0_0.out x11_1 p353 q353
   cases e353
   replace hx353_0 := hc_ HB hx353_0
   replace hx353_1 := hc_ HB hx353_1
   replace hx353_2 := hc_ HB hx353_2
   replace p353 := eq_true p353
   replace q353 := eq_true q353
   go_wp2_with (first | ((with_reducible refine gd_ 7 ?_); refine bx_ 7 #[.string (⟨#[]⟩ : ByteArray), .string (⟨#[]⟩ : ByteArray), .int .i64 0] 71 ?_; intro gb354 hg w16 hbox hb; replace HO_5 := a_ (Kd.R_below (Kd.R_elderB (by refine rq_ ?_; exact HO_5.out) gb354 (Nat.le_of_eq hg.symm)) hb); have BK354 := a_ (hbox); have GE354 := a_ (bs_2 hg HB GE351 GE352); replace HB := hB_ (bl_2 HB GE351 GE352) hb; have NB351_354 := nB_ hg BK351; have NB354_351 := nC_ hg BK351; replace BK351 := bB_ BK351 hb; have NB352_354 := nB_ hg BK352; have NB354_352 := nC_ hg BK352; replace BK352 := bB_ BK352 hb; clear hb hbox hg; have hnb17 := NB354_351.out; have hnc17 := NB351_354.out; have hnb18 := NB354_352.out; have hnc18 := NB352_354.out; obtain ⟨hcz19_0, hcz19_1, hcz19_2, hfz19_0, hfz19_1, hfz19_2⟩ := c3_ BK354) | ((with_reducible refine gate_builtin (b := .append) (xs := #[.tmp 19, .tmp 21]) rfl ?_); at_builtin; refine Kd.R_append k71 (w0 := w) w.heap.size rfl (.tmp 19) (.tmp 21) 22 71 (.agg #[(.string ⟨#[]⟩), (.string ⟨#[]⟩), (.int .i64 0)]) 40 rfl Try.underlying22 info71 rfl (by decide) (by omega) u5 x5_1 (⟨(rd_T71 l0_0 x11_1).f0, (rd_T71 l0_0 x11_1).f1, (rd_T71 l0_0 x11_1).f2⟩ : S71) [.string ((rd_T71 l0_0 x11_1).f0), .string ((rd_T71 l0_0 x11_1).f1), .int .i64 ((rd_T71 l0_0 x11_1).f2)] (fun k_ => k_ ≠ gb354) (fun _ => False) rfl (by first | (go_simp; done) | (go_simp; rfl)) ?aP (fun _ hk => hk.elim) ?aF ?aO ?aB ?aS ?aL ?_; (case aP => exact k71_mkM _ _ _ (⟨(rd_T71 l0_0 x11_1).f0, (rd_T71 l0_0 x11_1).f1, (rd_T71 l0_0 x11_1).f2⟩ : S71)); (case aB => exact (bl_3 HB GE351 GE352 GE354)); (case aF => exact (fun k_ hk => Kd.freshB (g := gb354) (o := .cells #[.string ((rd_T71 l0_0 x11_1).f0), .string ((rd_T71 l0_0 x11_1).f1), .int .i64 ((rd_T71 l0_0 x11_1).f2)] 71 (0, 0)) (bp_0 BK354) k_ hk)); (case aO => exact (by refine rq_ ?_; exact Kd.R_mono (Kd.R_far (p := ⟨gb354, 2, none⟩) (Kd.R_far (p := ⟨gb354, 1, none⟩) (Kd.R_far (p := ⟨gb354, 0, none⟩) (Kd.R_mono HO_5.out (fun k_ hk => (⟨hk, hk.2⟩ : _ ∧ k_ ≠ gb354))) (fun _ hk => hk.2) (.string ((rd_T71 l0_0 x11_1).f0))) (fun _ hk => hk.2) (.string ((rd_T71 l0_0 x11_1).f1))) (fun _ hk => hk.2) (.int .i64 ((rd_T71 l0_0 x11_1).f2))) (fun _ hk => hk.1.2))); (case aS => exact (below_size (bl_3 HB GE351 GE352 GE354))); (case aL => have := LMc15.out; omega); intro v356 w20 ho hb hg hat; rw [← Ny355.out] at ho; replace BK351 := a_ (blk_grown (g := gb351) (o := .cells #[.slice (some ad353) l0_0.length c0_0, .bool a0_1, .int .i64 a0_2] 24 (0, 0)) (bp_1 BK351 NB351_354) hg (Kd.R_ne HO_5.out BK351.out (by decide))); replace BK352 := a_ (blk_grown (g := gb352) (o := .cells #[.slice none 0 0, .bool false, .int .i64 0] 24 (0, 0)) (bp_1 BK352 NB352_354) hg (Kd.R_ne HO_5.out BK352.out (by decide))); replace BK354 := a_ (blk_grown (g := gb354) (o := .cells #[.string ((rd_T71 l0_0 x11_1).f0), .string ((rd_T71 l0_0 x11_1).f1), .int .i64 ((rd_T71 l0_0 x11_1).f2)] 71 (0, 0)) (bp_0 BK354) hg (Kd.R_away HO_5.out (fun _ hk => hk.2))); replace HB := a_ (hb); have HO357 := a_ (ho); clear HO_5; clear ho hb hg hat))
   go_roundg k1
   case measure => have := HK1.out; omega
   case rel => exact ⟨(y355), (wrap64 (x11_1 + 1)), fz_, H', ⟨by have := HK1.out; omega⟩, ⟨by refine rq_ ?_; exact Kd.R_mono HO357.out (fun _ hk => trivial)⟩, ⟨bk_ BK351⟩, ⟨bk_ BK352⟩, ⟨bl_3 HB GE351 GE352 GE354⟩⟩
/-! ### gafferref02_Drop: function 75 -/
mutual
def gafferref02_Drop.j0 : Nat → ByteArray → Int → Bool → List (S71) → Bool → Int → Option ((List (S71)) × Bool × Int × Int)
 | 0, _, _, _, _, _, _ => none
 | k + 1, x1, x6, x18, x359000, x359001, x359002 => if x18 = true then (gafferref02_Drop.j1 k x1 6 x359000 x359001 x359002) else (gafferref02_Drop.j1 k x1 x6 x359000 x359001 x359002)
def gafferref02_Drop.j1 : Nat → ByteArray → Int → List (S71) → Bool → Int → Option ((List (S71)) × Bool × Int × Int)
 | 0, _, _, _, _, _ => none
 | k + 1, x1, x6, x359000, x359001, x359002 => if x6 = 0 then ((gafferref02_Copy.f x359000 x359001 x359002).bind fun bt368 => ((gafferref02_burnt.f bt368.1 bt368.2.1 bt368.2.2).bind fun bt373 => (if bt373.2.2.2 = true then ((gafferref02_without.f k bt373.1 bt373.2.1 bt373.2.2.1 x1).bind fun bt380 => (some (bt380.1, bt380.2.1, bt380.2.2, 0))) else (some (bt373.1, bt373.2.1, bt373.2.2.1, 8))))) else ((gafferref02_bad.f x359000 x359001 x359002 x6).bind fun bt362 => (some (bt362.1, bt362.2.1, bt362.2.2.1, bt362.2.2.2)))
end
def gafferref02_Drop.f (k : Nat) (l0_0 : List (S71)) (a0_1 : Bool) (a0_2 : Int) (a1 : ByteArray) : Option ((List (S71)) × Bool × Int × Int) := (gafferref02_ready.f k l0_0 a0_1 a0_2).bind fun t360 => (if t360 = 0 then ((gafferref02_find.f k l0_0 a0_1 a0_2 a1).bind fun t361 => (gafferref02_Drop.j0 k a1 t360 (decide (t361 < 0)) l0_0 a0_1 a0_2)) else (gafferref02_Drop.j0 k a1 t360 false l0_0 a0_1 a0_2))
theorem gafferref02_Drop.mono_l : ∀ k, (∀ y0 y1 y2 y3 y4 y5, LeO (gafferref02_Drop.j0 k y0 y1 y2 y3 y4 y5) (gafferref02_Drop.j0 (k + 1) y0 y1 y2 y3 y4 y5)) ∧ (∀ y0 y1 y2 y3 y4, LeO (gafferref02_Drop.j1 k y0 y1 y2 y3 y4) (gafferref02_Drop.j1 (k + 1) y0 y1 y2 y3 y4))
 | 0 => ⟨fun _ _ _ _ _ _ r h => by simp [gafferref02_Drop.j0] at h, fun _ _ _ _ _ r h => by simp [gafferref02_Drop.j1] at h⟩
 | k + 1 => by
  obtain ⟨ih0, ih1⟩ := gafferref02_Drop.mono_l k
  refine ⟨?_, ?_⟩
  ·intro y0 y1 y2 y3 y4 y5
   unfold gafferref02_Drop.j0
   repeat' with_reducible first | apply ih0 | apply ih1 | apply gafferref02_find.mono | apply gafferref02_ready.mono | apply gafferref02_without.mono | apply LeO.refl | apply LeO.none | apply LeO.ite | refine LeO.bind ?_ (fun _ => ?_)
  ·intro y0 y1 y2 y3 y4
   unfold gafferref02_Drop.j1
   repeat' with_reducible first | apply ih0 | apply ih1 | apply gafferref02_find.mono | apply gafferref02_ready.mono | apply gafferref02_without.mono | apply LeO.refl | apply LeO.none | apply LeO.ite | refine LeO.bind ?_ (fun _ => ?_)
theorem gafferref02_Drop.mono : ∀ a0 a1 a2 a3 k, LeO (gafferref02_Drop.f k a0 a1 a2 a3) (gafferref02_Drop.f (k + 1) a0 a1 a2 a3) := by
 intro a0 a1 a2 a3 k
 obtain ⟨ih0, ih1⟩ := gafferref02_Drop.mono_l k
 unfold gafferref02_Drop.f
 repeat' with_reducible first | apply ih0 | apply ih1 | apply gafferref02_find.mono | apply gafferref02_ready.mono | apply gafferref02_without.mono | apply LeO.refl | apply LeO.none | apply LeO.ite | refine LeO.bind ?_ (fun _ => ?_)
theorem gafferref02_Drop.calls (k : Nat) (A0_0 : Option Addr) (c0_0 : Nat) (l0_0 : List (S71)) (a0_1 : Bool) (a0_2 : Int) (a1 : ByteArray) (r1 : List (S71)) (r2 : Bool) (r3 : Int) (r4 : Int) (w : World) (hr0_0 : Kd.C k71 w A0_0 l0_0.length l0_0) (hc0_0 : l0_0.length ≤ c0_0) (h : gafferref02_Drop.f k l0_0 a0_1 a0_2 a1 = some (r1, r2, r3, r4)) :
  Calls Try.prog 75 #[.agg #[.slice A0_0 l0_0.length c0_0, .bool a0_1, .int .i64 a0_2], .string a1] w fun e w' => ∃ v0_ : Value, e = .returned (.tuple #[.agg #[v0_, .bool r2, .int .i64 r3], .int .i64 r4]) ∧ Kd.R k71 71 w' w.heap.size (fun _ => True) v0_ r1 ∧ Below w.heap.size w w' := by
 have hu24 := Try.underlying24
 have HR0_0 := a_ hr0_0
 have HC0_0 := a_ hc0_0
 clear hr0_0 hc0_0
 have HB := a_ (Below.refl w.heap.size w)
 have H : ((gafferref02_ready.f k l0_0 a0_1 a0_2).bind fun t360 => (if t360 = 0 then ((gafferref02_find.f k l0_0 a0_1 a0_2 a1).bind fun t361 => (gafferref02_Drop.j0 k a1 t360 (decide (t361 < 0)) l0_0 a0_1 a0_2)) else (gafferref02_Drop.j0 k a1 t360 false l0_0 a0_1 a0_2))) = some (r1, r2, r3, r4) := h
 clear h
 obtain ⟨t360, A30, H⟩ := Option.bind_eq_some_iff.mp H
 try dsimp only at H
 have A3 := a_ A30
 clear A30
 have HC4 := a_ H
 clear H
 go_enter Try.func75, Try.ntmps75
 go_upto_region 2 with (first | ((with_reducible refine gd_ 2 ?_); refine bx_ 2 #[.slice A0_0 l0_0.length c0_0, .bool a0_1, .int .i64 a0_2] 24 ?_; intro gb358 hg w5 hbox hb; have BK358 := a_ (hbox); have GE358 := a_ (bs_0 hg HB); replace HB := hB_ (bl_ HB) hb; clear hb hbox hg) | ((with_reducible refine gd_ 4 ?_); refine bx_ 4 #[.slice none 0 0, .bool false, .int .i64 0] 24 ?_; intro gb359 hg w6 hbox hb; have BK359 := a_ (hbox); have GE359 := a_ (bs_1 hg HB GE358); replace HB := hB_ (bl_1 HB GE358) hb; have NB358_359 := nB_ hg BK358; have NB359_358 := nC_ hg BK358; replace BK358 := bB_ BK358 hb; clear hb hbox hg; have hnb7 := NB358_359.out; have hnc7 := NB359_358.out; obtain ⟨hcz8_0, hcz8_1, hcz8_2, hfz8_0, hfz8_1, hfz8_2⟩ := c3_ BK358) | ((with_reducible refine gk_ 97 ?_); refine gl_ (some 10) Try.func97 #[.agg #[.slice A0_0 l0_0.length c0_0, .bool a0_1, .int .i64 a0_2]] ?_; (with_reducible refine (gafferref02_ready.calls k _ _ l0_0 a0_1 a0_2 t360 _ ?side1 ?side2 A3.out).mono ?_); (case side1 => exact cl_ (Kd.C_below HR0_0.out HB.out)); (case side2 => exact HC0_0.out); rintro e w9 ⟨rfl, hb⟩; refine ⟨_, rfl, ?_⟩; replace BK358 := bB_ BK358 hb; replace BK359 := bB_ BK359 hb; replace HB := hB_ (bl_2 HB GE358 GE359) hb; (try clear hb)))
 (try simp only [Act.put, List.setIfInBounds_toArray, List.set_cons_zero, List.set_cons_succ])
 go_cut [18] (fun v18 wc => ∃ (kq : Nat) (x18_3 : Bool), v18 = .bool x18_3 ∧ Aside0 (gafferref02_Drop.j0 kq a1 t360 x18_3 l0_0 a0_1 a0_2 = some (r1, r2, r3, r4)) ∧ Aside0 (kq ≤ k) ∧ Aside0 (wc.heap[gb358]? = some (.cells #[(.slice A0_0 l0_0.length c0_0), .bool a0_1, .int .i64 a0_2] 24 (0, 0))) ∧ Aside0 (wc.heap[gb359]? = some (.cells #[(.slice none 0 0), .bool false, .int .i64 0] 24 (0, 0))) ∧ Aside0 (Below w.heap.size w wc))
 case first =>
  have H := HC4.out
  clear HC4
  by_cases c10 : t360 = 0
  rotate_left
  ·rw [if_neg c10] at H
   have c10b0 : (t360 == 0) = false := beq_eq_false_iff_ne.mpr c10
   have c10b1 : (t360 != 0) = true := bne_iff_ne.mpr c10
   (first | rw [c10b0] | (simp only [i64_w, i32_w]; rw [c10b0]) | skip)
   have H' := a_ H
   clear H
   go_wp2
   go_meet
   case rel => exact ⟨_, (false), fz_, H', ⟨by first | omega | exact Nat.le_refl _⟩, ⟨bk_ BK358⟩, ⟨bk_ BK359⟩, ⟨bl_2 HB GE358 GE359⟩⟩
  rw [if_pos c10] at H
  have c10b0 : (t360 == 0) = true := beq_iff_eq.mpr c10
  have c10b1 : (t360 != 0) = false := bne_eq_false_iff_eq.mpr c10
  clear c10
  (first | rw [c10b0] | (simp only [i64_w, i32_w]; rw [c10b0]) | skip)
  obtain ⟨t361, A110, H⟩ := Option.bind_eq_some_iff.mp H
  try dsimp only at H
  have A11 := a_ A110
  clear A110
  have H' := a_ H
  clear H
  have hnb12 := NB358_359.out
  have hnc12 := NB359_358.out
  obtain ⟨hcz13_0, hcz13_1, hcz13_2, hfz13_0, hfz13_1, hfz13_2⟩ := c3_ BK358
  go_wp2_with (first | (go_at_call 64; (with_reducible refine (gafferref02_find.calls k _ _ l0_0 a0_1 a0_2 a1 t361 _ ?side1 ?side2 A11.out).mono ?_); (case side1 => exact cl_ (Kd.C_below HR0_0.out HB.out)); (case side2 => exact HC0_0.out); rintro e w14 ⟨rfl, hb⟩; replace BK358 := bB_ BK358 hb; replace BK359 := bB_ BK359 hb; replace HB := hB_ (bl_2 HB GE358 GE359) hb; (try clear hb)))
  go_meet
  case rel => exact ⟨_, (decide (t361 < 0)), fz_, H', ⟨by first | omega | exact Nat.le_refl _⟩, ⟨bk_ BK358⟩, ⟨bk_ BK359⟩, ⟨bl_2 HB GE358 GE359⟩⟩
 case rest =>
  clear HC4
  try clear c1
  try clear p2
  try clear c7
  try clear c9
  try clear c10
  try clear c10b0
  try clear c10b1
  try clear c12
  obtain ⟨kq, x18_3, rfl, HA, HJ3, BK358, BK359, HB⟩ := hcut
  cases kq with
  | zero => exact absurd HA.out (by simp [gafferref02_Drop.j0])
  | succ kj3 =>
   have H := HA.out
   clear HA
   simp only [gafferref02_Drop.j0] at H
   have HC15 := a_ H
   clear H
   go_upto_if 18 with (fail)
   go_cut [6] (fun v6 wc => ∃ (kq : Nat) (x6_14 : Int), v6 = .int .i64 x6_14 ∧ Aside0 (gafferref02_Drop.j1 kq a1 x6_14 l0_0 a0_1 a0_2 = some (r1, r2, r3, r4)) ∧ Aside0 (kq ≤ kj3) ∧ Aside0 (wc.heap[gb358]? = some (.cells #[(.slice A0_0 l0_0.length c0_0), .bool a0_1, .int .i64 a0_2] 24 (0, 0))) ∧ Aside0 (wc.heap[gb359]? = some (.cells #[(.slice none 0 0), .bool false, .int .i64 0] 24 (0, 0))) ∧ Aside0 (Below w.heap.size w wc))
   case first =>
    have H := HC15.out
    clear HC15
    by_cases c16 : x18_3 = true
    ·subst c16
     have H1 : (gafferref02_Drop.j1 kj3 a1 6 l0_0 a0_1 a0_2) = some (r1, r2, r3, r4) := by rw [if_pos rfl] at H; exact H
     clear H
     have H := H1
     clear H1
     have H' := a_ H
     clear H
     go_wp2
     go_meet
     case rel => exact ⟨_, (6), fz_, H', ⟨by have := HJ3.out; first | omega | exact Nat.le_refl _⟩, ⟨bk_ BK358⟩, ⟨bk_ BK359⟩, ⟨bl_2 HB GE358 GE359⟩⟩
    replace c16 := Bool.eq_false_iff.mpr c16
    subst c16
    have H1 : (gafferref02_Drop.j1 kj3 a1 t360 l0_0 a0_1 a0_2) = some (r1, r2, r3, r4) := by rw [if_neg (show ¬ (false = true) by decide)] at H; exact H
    clear H
    have H := H1
    clear H1
    have H' := a_ H
    clear H
    go_wp2
    go_meet
    case rel => exact ⟨_, (t360), fz_, H', ⟨by have := HJ3.out; first | omega | exact Nat.le_refl _⟩, ⟨bk_ BK358⟩, ⟨bk_ BK359⟩, ⟨bl_2 HB GE358 GE359⟩⟩
   case rest =>
    clear HC15
    try clear c1
    try clear p2
    try clear c7
    try clear c9
    try clear c10
    try clear c10b0
    try clear c10b1
    try clear c12
    try clear c16
    try clear p2
    obtain ⟨kq, x6_14, rfl, HA, HJ14, BK358, BK359, HB⟩ := hcut
    cases kq with
    | zero => exact absurd HA.out (by simp [gafferref02_Drop.j1])
    | succ kj14 =>
     have H := HA.out
     clear HA
     simp only [gafferref02_Drop.j1] at H
     by_cases c17 : x6_14 = 0
     rotate_left
     ·rw [if_neg c17] at H
      have c17b0 : (x6_14 == 0) = false := beq_eq_false_iff_ne.mpr c17
      have c17b1 : (x6_14 != 0) = true := bne_iff_ne.mpr c17
      obtain ⟨⟨t362, t365, t366, t367⟩, A460, H⟩ := Option.bind_eq_some_iff.mp H
      try dsimp only at H
      have A46 := a_ A460
      clear A460
      simp only [Option.some.injEq, Prod.mk.injEq] at H
      obtain ⟨rfl, rfl, rfl, rfl⟩ := H
      have hnb47 := NB358_359.out
      have hnc47 := NB359_358.out
      obtain ⟨hcz48_0, hcz48_1, hcz48_2, hfz48_0, hfz48_1, hfz48_2⟩ := c3_ BK358
      go_wp2_with (first | ((with_reducible refine gk_ 98 ?_); refine gl_ (some 23) Try.func98 #[.agg #[.slice A0_0 l0_0.length c0_0, .bool a0_1, .int .i64 a0_2], .int .i64 x6_14] ?_; (with_reducible refine (gafferref02_bad.calls _ _ l0_0 a0_1 a0_2 x6_14 t362 t365 t366 t367 _ ?side1 ?side2 A46.out).mono ?_); (case side1 => exact cl_ (Kd.C_below HR0_0.out HB.out)); (case side2 => exact HC0_0.out); rintro e w49 ⟨v363, rfl, ho0, hb⟩; refine ⟨_, rfl, ?_⟩; have HO364 := a_ (Kd.R_lower ho0 (below_size (bl_2 HB GE358 GE359))); replace BK358 := bB_ BK358 hb; replace BK359 := bB_ BK359 hb; replace HB := hB_ (bl_2 HB GE358 GE359) hb; (try clear hb); (try clear ho0); obtain ⟨Ao50, co50, eo50⟩ := Kd.R_slice HO364.out; subst eo50; obtain ⟨hcz51_0, hcz51_1, hcz51_2, hfz51_0, hfz51_1, hfz51_2⟩ := c3_ BK359))
      refine bodyPost_ret (results_ct rfl _ _ gb359 24 #[.slice Ao50 t362.length co50, .bool t365, .int .i64 t366] (0, 0) _ rfl (bp_0 BK359) Try.underlying24 rfl (by kernel_rfl)) rfl ?_
      exact ⟨_, fz_, by refine rq_ ?_; exact Kd.R_mono (Kd.R_far (p := ⟨gb359, 2, none⟩) (Kd.R_far (p := ⟨gb359, 1, none⟩) (Kd.R_far (p := ⟨gb359, 0, none⟩) (Kd.R_types HO364.out BK359.out (by decide)) (fun _ hk => hk.2) (.slice Ao50 t362.length co50)) (fun _ hk => hk.2) (.bool t365)) (fun _ hk => hk.2) (.int .i64 t366)) (fun _ hk => trivial), bl_2 HB GE358 GE359⟩


     rw [if_pos c17] at H
     have c17b0 : (x6_14 == 0) = true := beq_iff_eq.mpr c17
     have c17b1 : (x6_14 != 0) = false := bne_eq_false_iff_eq.mpr c17
     clear c17
     obtain ⟨⟨t368, t371, t372⟩, A180, H⟩ := Option.bind_eq_some_iff.mp H
     try dsimp only at H
     have A18 := a_ A180
     clear A180
     obtain ⟨⟨t373, t376, t377, t378⟩, A190, H⟩ := Option.bind_eq_some_iff.mp H
     try dsimp only at H
     have A19 := a_ A190
     clear A190
     by_cases c20 : t378 = true
     rotate_left
     ·replace c20 := Bool.eq_false_iff.mpr c20
      subst c20
      have H1 : (some (t373, t376, t377, 8)) = some (r1, r2, r3, r4) := by rw [if_neg (show ¬ (false = true) by decide)] at H; exact H
      clear H
      have H := H1
      clear H1
      simp only [Option.some.injEq, Prod.mk.injEq] at H
      obtain ⟨rfl, rfl, rfl, rfl⟩ := H
      have hnb35 := NB358_359.out
      have hnc35 := NB359_358.out
      obtain ⟨hcz36_0, hcz36_1, hcz36_2, hfz36_0, hfz36_1, hfz36_2⟩ := c3_ BK358
      go_wp2_with (first | ((with_reducible refine gk_ 14 ?_); refine gl_ (some 28) Try.func14 #[.agg #[.slice A0_0 l0_0.length c0_0, .bool a0_1, .int .i64 a0_2]] ?_; (with_reducible refine (gafferref02_Copy.calls _ _ l0_0 a0_1 a0_2 t368 t371 t372 _ ?side1 ?side2 A18.out).mono ?_); (case side1 => exact cl_ (Kd.C_below HR0_0.out HB.out)); (case side2 => exact HC0_0.out); rintro e w37 ⟨v369, rfl, ho0, hb⟩; refine ⟨_, rfl, ?_⟩; have HO370 := a_ (Kd.R_lower ho0 (below_size (bl_2 HB GE358 GE359))); replace BK358 := bB_ BK358 hb; replace BK359 := bB_ BK359 hb; replace HB := hB_ (bl_2 HB GE358 GE359) hb; (try clear hb); (try clear ho0); obtain ⟨Ao38, co38, eo38⟩ := Kd.R_slice HO370.out; subst eo38) | ((with_reducible refine gk_ 99 ?_); refine gl_ (some 29) Try.func99 #[.agg #[.slice Ao38 t368.length co38, .bool t371, .int .i64 t372]] ?_; (with_reducible refine (gafferref02_burnt.calls (fun k_ => some k_ = (.slice Ao38 t368.length co38 : Value).ownBlock) (.slice Ao38 t368.length co38) t368 t371 t372 t373 t376 t377 false w _ ?side1 ?side2 A19.out).mono ?_); (case side1 => repeat (first | (with_reducible first | exact HB.out | apply below_alloc | apply pw_below_drewN | apply below_drew1 | refine below_set ?_ GE358.out | refine below_set ?_ GE359.out) | exact HB.out)); (case side2 => exact Kd.R_tight rfl HO370.out); rintro e w39 ⟨v374, rfl, ho0, hb, hkp⟩; refine ⟨_, rfl, ?_⟩; replace BK358 := a_ (blk_kept (bk_ BK358) hkp (fun hs_ => (fun e_ => (Kd.R_ne HO370.out BK358.out (by decide)) e_) hs_)); replace BK359 := a_ (blk_kept (bk_ BK359) hkp (fun hs_ => (fun e_ => (Kd.R_ne HO370.out BK359.out (by decide)) e_) hs_)); have HO375 := a_ (Kd.R_mono (ok' := fun k_ => True) ho0 (fun k_ hk_ => trivial)); replace HB := a_ (hb); clear HO370; (try clear hb); (try clear hkp); (try clear ho0)) | ((with_reducible refine gd_ 7 ?_); refine bx_ 7 #[.slice none 0 0, .bool false, .int .i64 0] 24 ?_; intro gb379 hg w40 hbox hb; replace HO375 := a_ (Kd.R_below (by refine rq_ ?_; exact HO375.out) hb); have BK379 := a_ (hbox); have GE379 := a_ (bs_2 hg HB GE358 GE359); replace HB := hB_ (bl_2 HB GE358 GE359) hb; have NB358_379 := nB_ hg BK358; have NB379_358 := nC_ hg BK358; replace BK358 := bB_ BK358 hb; have NB359_379 := nB_ hg BK359; have NB379_359 := nC_ hg BK359; replace BK359 := bB_ BK359 hb; clear hb hbox hg; obtain ⟨Ao41, co41, eo41⟩ := Kd.R_slice HO375.out; subst eo41; have hnb42 := NB379_358.out; have hnc42 := NB358_379.out; have hnb43 := NB379_359.out; have hnc43 := NB359_379.out; obtain ⟨hcz44_0, hcz44_1, hcz44_2, hfz44_0, hfz44_1, hfz44_2⟩ := c3_ BK379; obtain ⟨hcz45_0, hcz45_1, hcz45_2, hfz45_0, hfz45_1, hfz45_2⟩ := c3_ BK359))
      refine bodyPost_ret (results_ct rfl _ _ gb359 24 #[.slice Ao41 t373.length co41, .bool t376, .int .i64 t377] (0, 0) _ rfl (bp_1 BK359 NB359_379) Try.underlying24 rfl (by kernel_rfl)) rfl ?_
      exact ⟨_, fz_, by refine rq_ ?_; exact Kd.R_mono (Kd.R_far (p := ⟨gb359, 2, none⟩) (Kd.R_far (p := ⟨gb359, 1, none⟩) (Kd.R_far (p := ⟨gb359, 0, none⟩) (Kd.R_far (p := ⟨gb379, 2, none⟩) (Kd.R_far (p := ⟨gb379, 1, none⟩) (Kd.R_far (p := ⟨gb379, 0, none⟩) (Kd.R_types (Kd.R_types HO375.out BK379.out (by decide)) BK359.out (by decide)) (fun _ hk => hk.1.2) (.slice Ao41 t373.length co41)) (fun _ hk => hk.1.2) (.bool t376)) (fun _ hk => hk.1.2) (.int .i64 t377)) (fun _ hk => hk.2) (.slice Ao41 t373.length co41)) (fun _ hk => hk.2) (.bool t376)) (fun _ hk => hk.2) (.int .i64 t377)) (fun _ hk => trivial), bl_3 HB GE358 GE359 GE379⟩
     subst c20
     have H1 : ((gafferref02_without.f kj14 t373 t376 t377 a1).bind fun bt380 => (some (bt380.1, bt380.2.1, bt380.2.2, 0))) = some (r1, r2, r3, r4) := by rw [if_pos rfl] at H; exact H
     clear H
     have H := H1
     clear H1
     obtain ⟨⟨t380, t383, t384⟩, A210, H⟩ := Option.bind_eq_some_iff.mp H
     try dsimp only at H
     have A21 := a_ A210
     clear A210
     simp only [Option.some.injEq, Prod.mk.injEq] at H
     obtain ⟨rfl, rfl, rfl, rfl⟩ := H
     have hnb22 := NB358_359.out
     have hnc22 := NB359_358.out
     obtain ⟨hcz23_0, hcz23_1, hcz23_2, hfz23_0, hfz23_1, hfz23_2⟩ := c3_ BK358
     go_wp2_with (first | ((with_reducible refine gk_ 14 ?_); refine gl_ (some 28) Try.func14 #[.agg #[.slice A0_0 l0_0.length c0_0, .bool a0_1, .int .i64 a0_2]] ?_; (with_reducible refine (gafferref02_Copy.calls _ _ l0_0 a0_1 a0_2 t368 t371 t372 _ ?side1 ?side2 A18.out).mono ?_); (case side1 => exact cl_ (Kd.C_below HR0_0.out HB.out)); (case side2 => exact HC0_0.out); rintro e w24 ⟨v369, rfl, ho0, hb⟩; refine ⟨_, rfl, ?_⟩; have HO370 := a_ (Kd.R_lower ho0 (below_size (bl_2 HB GE358 GE359))); replace BK358 := bB_ BK358 hb; replace BK359 := bB_ BK359 hb; replace HB := hB_ (bl_2 HB GE358 GE359) hb; (try clear hb); (try clear ho0); obtain ⟨Ao25, co25, eo25⟩ := Kd.R_slice HO370.out; subst eo25) | ((with_reducible refine gk_ 99 ?_); refine gl_ (some 29) Try.func99 #[.agg #[.slice Ao25 t368.length co25, .bool t371, .int .i64 t372]] ?_; (with_reducible refine (gafferref02_burnt.calls (fun k_ => some k_ = (.slice Ao25 t368.length co25 : Value).ownBlock) (.slice Ao25 t368.length co25) t368 t371 t372 t373 t376 t377 true w _ ?side1 ?side2 A19.out).mono ?_); (case side1 => repeat (first | (with_reducible first | exact HB.out | apply below_alloc | apply pw_below_drewN | apply below_drew1 | refine below_set ?_ GE358.out | refine below_set ?_ GE359.out) | exact HB.out)); (case side2 => exact Kd.R_tight rfl HO370.out); rintro e w26 ⟨v374, rfl, ho0, hb, hkp⟩; refine ⟨_, rfl, ?_⟩; replace BK358 := a_ (blk_kept (bk_ BK358) hkp (fun hs_ => (fun e_ => (Kd.R_ne HO370.out BK358.out (by decide)) e_) hs_)); replace BK359 := a_ (blk_kept (bk_ BK359) hkp (fun hs_ => (fun e_ => (Kd.R_ne HO370.out BK359.out (by decide)) e_) hs_)); have HO375 := a_ (Kd.R_mono (ok' := fun k_ => True) ho0 (fun k_ hk_ => trivial)); replace HB := a_ (hb); clear HO370; (try clear hb); (try clear hkp); (try clear ho0)) | ((with_reducible refine gd_ 7 ?_); refine bx_ 7 #[.slice none 0 0, .bool false, .int .i64 0] 24 ?_; intro gb379 hg w27 hbox hb; replace HO375 := a_ (Kd.R_below (by refine rq_ ?_; exact HO375.out) hb); have BK379 := a_ (hbox); have GE379 := a_ (bs_2 hg HB GE358 GE359); replace HB := hB_ (bl_2 HB GE358 GE359) hb; have NB358_379 := nB_ hg BK358; have NB379_358 := nC_ hg BK358; replace BK358 := bB_ BK358 hb; have NB359_379 := nB_ hg BK359; have NB379_359 := nC_ hg BK359; replace BK359 := bB_ BK359 hb; clear hb hbox hg; obtain ⟨Ao28, co28, eo28⟩ := Kd.R_slice HO375.out; subst eo28; have hnb29 := NB379_358.out; have hnc29 := NB358_379.out; have hnb30 := NB379_359.out; have hnc30 := NB359_379.out; obtain ⟨hcz31_0, hcz31_1, hcz31_2, hfz31_0, hfz31_1, hfz31_2⟩ := c3_ BK379) | ((with_reducible refine gk_ 100 ?_); refine gl_ (some 37) Try.func100 #[.agg #[.slice Ao28 t373.length co28, .bool t376, .int .i64 t377], .string a1] ?_; (with_reducible refine (gafferref02_without.calls kj14 _ _ t373 t376 t377 a1 t380 t383 t384 _ ?side1 ?side2 A21.out).mono ?_); (case side1 => refine (Kd.R_reads' (e := 71) (base := w.heap.size) (ok := fun k_ => True) (n := t373.length) (c := co28) ?_).2.2; exact (by refine rq_ ?_; exact (Kd.R_mono (Kd.R_far (p := ⟨gb379, 2, none⟩) (Kd.R_far (p := ⟨gb379, 1, none⟩) (Kd.R_far (p := ⟨gb379, 0, none⟩) (Kd.R_types HO375.out BK379.out (by decide)) (fun _ hk => hk.2) (.slice Ao28 t373.length co28)) (fun _ hk => hk.2) (.bool t376)) (fun _ hk => hk.2) (.int .i64 t377)) (fun _ h_ => h_.1)))); (case side2 => exact (Kd.R_reads' HO375.out).2.1); rintro e w32 ⟨v381, rfl, ho0, hb⟩; refine ⟨_, rfl, ?_⟩; have HO382 := a_ (Kd.R_lower (Kd.R_new' ho0 (Kd.R_lt (by refine rq_ ?_; exact (Kd.R_mono (Kd.R_far (p := ⟨gb379, 2, none⟩) (Kd.R_far (p := ⟨gb379, 1, none⟩) (Kd.R_far (p := ⟨gb379, 0, none⟩) (Kd.R_types HO375.out BK379.out (by decide)) (fun _ hk => hk.2) (.slice Ao28 t373.length co28)) (fun _ hk => hk.2) (.bool t376)) (fun _ hk => hk.2) (.int .i64 t377)) (fun _ h_ => h_.1))))) (below_size (bl_3 HB GE358 GE359 GE379))); replace HO375 := a_ (Kd.R_elder' (by refine rq_ ?_; exact (Kd.R_mono (Kd.R_far (p := ⟨gb379, 2, none⟩) (Kd.R_far (p := ⟨gb379, 1, none⟩) (Kd.R_far (p := ⟨gb379, 0, none⟩) (Kd.R_types HO375.out BK379.out (by decide)) (fun _ hk => hk.2) (.slice Ao28 t373.length co28)) (fun _ hk => hk.2) (.bool t376)) (fun _ hk => hk.2) (.int .i64 t377)) (fun _ h_ => h_.1))) (Kd.R_base ho0) hb); replace BK358 := a_ (blk_below (g := gb358) (o := .cells #[.slice A0_0 l0_0.length c0_0, .bool a0_1, .int .i64 a0_2] 24 (0, 0)) (bp_1 BK358 NB358_379) hb); replace BK359 := a_ (blk_below (g := gb359) (o := .cells #[.slice none 0 0, .bool false, .int .i64 0] 24 (0, 0)) (bp_1 BK359 NB359_379) hb); replace BK379 := a_ (blk_below (g := gb379) (o := .cells #[.slice Ao28 t373.length co28, .bool t376, .int .i64 t377] 24 (0, 0)) (bp_0 BK379) hb); replace HB := hB_ (bl_3 HB GE358 GE359 GE379) hb; (try clear hb); (try clear ho0); obtain ⟨Ao33, co33, eo33⟩ := Kd.R_slice HO382.out; subst eo33; obtain ⟨hcz34_0, hcz34_1, hcz34_2, hfz34_0, hfz34_1, hfz34_2⟩ := c3_ BK359))
     refine bodyPost_ret (results_ct rfl _ _ gb359 24 #[.slice Ao33 t380.length co33, .bool t383, .int .i64 t384] (0, 0) _ rfl (bp_0 BK359) Try.underlying24 rfl (by kernel_rfl)) rfl ?_
     exact ⟨_, fz_, by refine rq_ ?_; exact Kd.R_mono (Kd.R_far (p := ⟨gb359, 2, none⟩) (Kd.R_far (p := ⟨gb359, 1, none⟩) (Kd.R_far (p := ⟨gb359, 0, none⟩) (Kd.R_types HO382.out BK359.out (by decide)) (fun _ hk => hk.2) (.slice Ao33 t380.length co33)) (fun _ hk => hk.2) (.bool t383)) (fun _ hk => hk.2) (.int .i64 t384)) (fun _ hk => trivial), bl_3 HB GE358 GE359 GE379⟩
/-! ### gafferref02_name: function 101 -/
def gafferref02_name.f (a0 : ByteArray) : Option (Bool) := if a0.toList = ([] : List UInt8) then (some false) else (some (decide ((a0.size : Int) ≤ 32)))
theorem gafferref02_name.calls (a0 : ByteArray) (r : Bool) (w : World) (h : gafferref02_name.f a0 = some r) :
  Calls Try.prog 101 #[.string a0] w fun e w' => e = .returned (.bool r) ∧ Drawn0 w w' := by
 have H : (if a0.toList = ([] : List UInt8) then (some false) else (some (decide ((a0.size : Int) ≤ 32)))) = some r := h
 clear h
 by_cases c2 : a0.toList = ([] : List UInt8)
 rotate_left
 ·rw [if_neg c2] at H
  have c2b0 : (a0.toList == ([] : List UInt8)) = false := beq_eq_false_iff_ne.mpr c2
  have c2b1 : (a0.toList != ([] : List UInt8)) = true := bne_iff_ne.mpr c2
  obtain rfl := Option.some.inj H
  go_enter Try.func101, Try.ntmps101
  go_wp2
  go_ret
  exact ⟨fz_, dr_⟩


 rw [if_pos c2] at H
 have c2b0 : (a0.toList == ([] : List UInt8)) = true := beq_iff_eq.mpr c2
 have c2b1 : (a0.toList != ([] : List UInt8)) = false := bne_eq_false_iff_eq.mpr c2
 clear c2
 obtain rfl := Option.some.inj H
 go_enter Try.func101, Try.ntmps101
 go_wp2
 go_ret
 exact ⟨fz_, dr_⟩
/-! ### gafferref02_with: function 102 -/
mutual
def gafferref02_with.l0 : Nat → List (S71) → Bool → List (S71) → Int → Int → List (S71) → Bool → Int → ByteArray → ByteArray → Int → Option ((List (S71)) × Bool × Int)
 | 0, _, _, _, _, _, _, _, _, _, _, _ => none
 | k + 1, x5, x6, x10, x11, x12, x386000, x386001, x386002, x387000, x387001, x387002 => if x12 < x11 then (if 0 ≤ x12 then (if x12 < (x10.length : Int) then (if x6 = true then (gafferref02_with.j1 k x5 x6 x10 x11 x12 false x386000 x386001 x386002 x387000 x387001 x387002 ((rd_T71 x10 x12).f0) ((rd_T71 x10 x12).f1) ((rd_T71 x10 x12).f2)) else (gafferref02_with.j1 k x5 x6 x10 x11 x12 (!(Op.bytesLess (((rd_T71 x10 x12).f0).toList) x387000.toList)) x386000 x386001 x386002 x387000 x387001 x387002 ((rd_T71 x10 x12).f0) ((rd_T71 x10 x12).f1) ((rd_T71 x10 x12).f2))) else (none)) else (none)) else (if x6 = true then (some (x5, x386001, x386002)) else (if x5.length < 3518437208883 then (some ((x5 ++ [(⟨x387000, x387001, x387002⟩ : S71)]), x386001, x386002)) else (none)))
def gafferref02_with.j1 : Nat → List (S71) → Bool → List (S71) → Int → Int → Bool → List (S71) → Bool → Int → ByteArray → ByteArray → Int → ByteArray → ByteArray → Int → Option ((List (S71)) × Bool × Int)
 | 0, _, _, _, _, _, _, _, _, _, _, _, _, _, _, _ => none
 | k + 1, x5, x6, x10, x11, x12, x24, x386000, x386001, x386002, x387000, x387001, x387002, x393000, x393001, x393002 => if x24 = true then (if x5.length < 3518437208883 then ((some (x5 ++ [(⟨x387000, x387001, x387002⟩ : S71)] : List (S71))).bind fun y393 => (if x393000.toList = x387000.toList then (gafferref02_with.l0 k y393 true x10 x11 (wrap64 (x12 + 1)) x386000 x386001 x386002 x387000 x387001 x387002) else (if y393.length < 3518437208883 then (gafferref02_with.l0 k (y393 ++ [(⟨x393000, x393001, x393002⟩ : S71)]) true x10 x11 (wrap64 (x12 + 1)) x386000 x386001 x386002 x387000 x387001 x387002) else (none)))) else (none)) else (if x393000.toList = x387000.toList then (gafferref02_with.l0 k x5 x6 x10 x11 (wrap64 (x12 + 1)) x386000 x386001 x386002 x387000 x387001 x387002) else (if x5.length < 3518437208883 then (gafferref02_with.l0 k (x5 ++ [(⟨x393000, x393001, x393002⟩ : S71)]) x6 x10 x11 (wrap64 (x12 + 1)) x386000 x386001 x386002 x387000 x387001 x387002) else (none)))
end
def gafferref02_with.f (k : Nat) (l0_0 : List (S71)) (a0_1 : Bool) (a0_2 : Int) (a1_0 : ByteArray) (a1_1 : ByteArray) (a1_2 : Int) : Option ((List (S71)) × Bool × Int) := gafferref02_with.l0 k ([] : List (S71)) false l0_0 (l0_0.length : Int) 0 l0_0 a0_1 a0_2 a1_0 a1_1 a1_2
theorem gafferref02_with.mono_l : ∀ k, (∀ y0 y1 y2 y3 y4 y5 y6 y7 y8 y9 y10, LeO (gafferref02_with.l0 k y0 y1 y2 y3 y4 y5 y6 y7 y8 y9 y10) (gafferref02_with.l0 (k + 1) y0 y1 y2 y3 y4 y5 y6 y7 y8 y9 y10)) ∧ (∀ y0 y1 y2 y3 y4 y5 y6 y7 y8 y9 y10 y11 y12 y13 y14, LeO (gafferref02_with.j1 k y0 y1 y2 y3 y4 y5 y6 y7 y8 y9 y10 y11 y12 y13 y14) (gafferref02_with.j1 (k + 1) y0 y1 y2 y3 y4 y5 y6 y7 y8 y9 y10 y11 y12 y13 y14))
 | 0 => ⟨fun _ _ _ _ _ _ _ _ _ _ _ r h => by simp [gafferref02_with.l0] at h, fun _ _ _ _ _ _ _ _ _ _ _ _ _ _ _ r h => by simp [gafferref02_with.j1] at h⟩
 | k + 1 => by
  obtain ⟨ih0, ih1⟩ := gafferref02_with.mono_l k
  refine ⟨?_, ?_⟩
  ·intro y0 y1 y2 y3 y4 y5 y6 y7 y8 y9 y10
   unfold gafferref02_with.l0
   repeat' with_reducible first | apply ih0 | apply ih1 | apply LeO.refl | apply LeO.none | apply LeO.ite | refine LeO.bind ?_ (fun _ => ?_)
  ·intro y0 y1 y2 y3 y4 y5 y6 y7 y8 y9 y10 y11 y12 y13 y14
   unfold gafferref02_with.j1
   repeat' with_reducible first | apply ih0 | apply ih1 | apply LeO.refl | apply LeO.none | apply LeO.ite | refine LeO.bind ?_ (fun _ => ?_)
theorem gafferref02_with.mono : ∀ a0 a1 a2 a3 a4 a5 k, LeO (gafferref02_with.f k a0 a1 a2 a3 a4 a5) (gafferref02_with.f (k + 1) a0 a1 a2 a3 a4 a5) := by
 intro a0 a1 a2 a3 a4 a5 k
 obtain ⟨ih0, ih1⟩ := gafferref02_with.mono_l k
 unfold gafferref02_with.f
 repeat' with_reducible first | apply ih0 | apply ih1 | apply LeO.refl | apply LeO.none | apply LeO.ite | refine LeO.bind ?_ (fun _ => ?_)
theorem gafferref02_with.calls (k : Nat) (A0_0 : Option Addr) (c0_0 : Nat) (l0_0 : List (S71)) (a0_1 : Bool) (a0_2 : Int) (a1_0 : ByteArray) (a1_1 : ByteArray) (a1_2 : Int) (r1 : List (S71)) (r2 : Bool) (r3 : Int) (w : World) (hr0_0 : Kd.C k71 w A0_0 l0_0.length l0_0) (hc0_0 : l0_0.length ≤ c0_0) (h : gafferref02_with.f k l0_0 a0_1 a0_2 a1_0 a1_1 a1_2 = some (r1, r2, r3)) :
  Calls Try.prog 102 #[.agg #[.slice A0_0 l0_0.length c0_0, .bool a0_1, .int .i64 a0_2], .agg #[.string a1_0, .string a1_1, .int .i64 a1_2]] w fun e w' => ∃ v0_ : Value, e = .returned (.agg #[v0_, .bool r2, .int .i64 r3]) ∧ Kd.R k71 71 w' w.heap.size (fun _ => True) v0_ r1 ∧ Below w.heap.size w w' := by
 have hu24 := Try.underlying24
 have hu71 := Try.underlying71
 have HR0_0 := a_ hr0_0
 have HC0_0 := a_ hc0_0
 clear hr0_0 hc0_0
 have HB := a_ (Below.refl w.heap.size w)
 have H : (gafferref02_with.l0 k ([] : List (S71)) false l0_0 (l0_0.length : Int) 0 l0_0 a0_1 a0_2 a1_0 a1_1 a1_2) = some (r1, r2, r3) := h
 clear h
 have H' := a_ H
 clear H
 go_enter Try.func102, Try.ntmps102
 go_wp2_with (first | ((with_reducible refine gd_ 2 ?_); refine bx_ 2 #[.slice A0_0 l0_0.length c0_0, .bool a0_1, .int .i64 a0_2] 24 ?_; intro gb385 hg w3 hbox hb; have BK385 := a_ (hbox); have GE385 := a_ (bs_0 hg HB); replace HB := hB_ (bl_ HB) hb; clear hb hbox hg) | ((with_reducible refine gd_ 3 ?_); refine bx_ 3 #[.string a1_0, .string a1_1, .int .i64 a1_2] 71 ?_; intro gb386 hg w4 hbox hb; have BK386 := a_ (hbox); have GE386 := a_ (bs_1 hg HB GE385); replace HB := hB_ (bl_1 HB GE385) hb; have NB385_386 := nB_ hg BK385; have NB386_385 := nC_ hg BK385; replace BK385 := bB_ BK385 hb; clear hb hbox hg) | ((with_reducible refine gd_ 4 ?_); refine bx_ 4 #[.slice none 0 0, .bool false, .int .i64 0] 24 ?_; intro gb387 hg w5 hbox hb; have BK387 := a_ (hbox); have GE387 := a_ (bs_2 hg HB GE385 GE386); replace HB := hB_ (bl_2 HB GE385 GE386) hb; have NB385_387 := nB_ hg BK385; have NB387_385 := nC_ hg BK385; replace BK385 := bB_ BK385 hb; have NB386_387 := nB_ hg BK386; have NB387_386 := nC_ hg BK386; replace BK386 := bB_ BK386 hb; clear hb hbox hg; have hnb6 := NB385_386.out; have hnc6 := NB386_385.out; have hnb7 := NB385_387.out; have hnc7 := NB387_385.out; obtain ⟨hcz8_0, hcz8_1, hcz8_2, hfz8_0, hfz8_1, hfz8_2⟩ := c3_ BK385))
 go_loopg [5, 6, 12] k (fun kq v5 v6 v12 w' => ∃ (x5_1 : List (S71)) (x6_1 : Bool) (x12_1 : Int), v6 = .bool x6_1 ∧ v12 = .int .i64 x12_1 ∧ Aside0 (gafferref02_with.l0 kq x5_1 x6_1 l0_0 (l0_0.length : Int) x12_1 l0_0 a0_1 a0_2 a1_0 a1_1 a1_2 = some (r1, r2, r3)) ∧ Aside0 (kq ≤ k) ∧ Aside0 (Kd.R k71 71 w' w.heap.size (fun k_ => k_ ≠ gb386) v5 x5_1) ∧ Aside0 (w'.heap[gb385]? = some (.cells #[(.slice A0_0 l0_0.length c0_0), .bool a0_1, .int .i64 a0_2] 24 (0, 0))) ∧ Aside0 (w'.heap[gb386]? = some (.cells #[.string a1_0, .string a1_1, .int .i64 a1_2] 71 (0, 0))) ∧ Aside0 (w'.heap[gb387]? = some (.cells #[(.slice none 0 0), .bool false, .int .i64 0] 24 (0, 0))) ∧ Aside0 (Below w.heap.size w w'))
 case atStart => exact ⟨(([] : List (S71))), (false), (0), fz_, fz_, H', ⟨Nat.le_refl _⟩, ⟨by first | exact Kd.R_nil _ _ _ _ _ | exact Kd.N_nil _ _ _ _ _ | exact Kd.V_nil _ _ _ _ _ | exact Kd.Q_nil _ _ _ _ _ | exact Kd.S_nil _ _ _ _ _⟩, ⟨bk_ BK385⟩, ⟨bk_ BK386⟩, ⟨bk_ BK387⟩, ⟨bl_3 HB GE385 GE386 GE387⟩⟩
 case round =>
  clear H'
  try clear c1
  try clear p2
  try clear c6
  try clear c7
  obtain ⟨x5_1, x6_1, x12_1, rfl, rfl, HA, HK1, HO_5, BK385, BK386, BK387, HB⟩ := hrel
  cases gk with
  | zero => exact absurd HA.out (by simp [gafferref02_with.l0])
  | succ k1 =>
   have H := HA.out
   clear HA
   simp only [gafferref02_with.l0] at H
   by_cases c9 : x12_1 < (l0_0.length : Int)
   rotate_left
   ·rw [if_neg c9] at H
    have c9b0 : decide (x12_1 < (l0_0.length : Int)) = false := decide_eq_false c9
    clear c9
    by_cases c66 : x6_1 = true
    ·subst c66
     have H1 : (some (x5_1, a0_1, a0_2)) = some (r1, r2, r3) := by rw [if_pos rfl] at H; exact H
     clear H
     have H := H1
     clear H1
     simp only [Option.some.injEq, Prod.mk.injEq] at H
     obtain ⟨rfl, rfl, rfl⟩ := H
     obtain ⟨Ao67, co67, eo67⟩ := Kd.R_slice HO_5.out
     subst eo67
     have hnb68 := NB385_386.out
     have hnc68 := NB386_385.out
     have hnb69 := NB385_387.out
     have hnc69 := NB387_385.out
     obtain ⟨hcz70_0, hcz70_1, hcz70_2, hfz70_0, hfz70_1, hfz70_2⟩ := c3_ BK385
     have hnb71 := NB387_386.out
     have hnc71 := NB386_387.out
     obtain ⟨hcz72_0, hcz72_1, hcz72_2, hfz72_0, hfz72_1, hfz72_2⟩ := c3_ BK387
     go_wp2
     refine bodyPost_ret (results_cell_row rfl _ _ gb387 24 #[.slice Ao67 x5_1.length co67, .bool a0_1, .int .i64 a0_2] (0, 0) _ rfl (bp_1 BK387 NB387_385) Try.underlying24 rfl (by kernel_rfl)) rfl ?_
     exact ⟨_, fz_, by refine rq_ ?_; exact Kd.R_mono (Kd.R_far (p := ⟨gb387, 2, none⟩) (Kd.R_far (p := ⟨gb387, 1, none⟩) (Kd.R_far (p := ⟨gb387, 0, none⟩) (Kd.R_far (p := ⟨gb385, 0, none⟩) (Kd.R_types (Kd.R_types HO_5.out BK385.out (by decide)) BK387.out (by decide)) (fun _ hk => hk.1.2) (.slice Ao67 x5_1.length co67)) (fun _ hk => hk.2) (.slice Ao67 x5_1.length co67)) (fun _ hk => hk.2) (.bool a0_1)) (fun _ hk => hk.2) (.int .i64 a0_2)) (fun _ hk => trivial), bl_3 HB GE385 GE386 GE387⟩
    replace c66 := Bool.eq_false_iff.mpr c66
    subst c66
    have H1 : (if x5_1.length < 3518437208883 then (some ((x5_1 ++ [(⟨a1_0, a1_1, a1_2⟩ : S71)]), a0_1, a0_2)) else (none)) = some (r1, r2, r3) := by rw [if_neg (show ¬ (false = true) by decide)] at H; exact H
    clear H
    have H := H1
    clear H1
    by_cases c73 : x5_1.length < 3518437208883
    rotate_left
    ·rw [if_neg c73] at H
     exact absurd H (by simp)


    rw [if_pos c73] at H
    have LMc73 := a_ c73
    clear c73
    obtain ⟨y388, hy388⟩ : ∃ y_ : List (S71), y_ = (x5_1 ++ [(⟨a1_0, a1_1, a1_2⟩ : S71)]) := ⟨_, rfl⟩
    replace H : (some (y388, a0_1, a0_2)) = some (r1, r2, r3) := by first | (rw [hy388]; with_reducible exact H) | (have H2_ := (Option.bind_some _ _).symm.trans H; rw [hy388]; with_reducible exact H2_) | (have H2_ := (Option.bind_some _ _).symm.trans H; with_reducible exact H2_) | with_reducible exact H | (rw [hy388]; exact H) | exact H
    have Ny388 := a_ hy388
    clear hy388
    simp only [Option.some.injEq, Prod.mk.injEq] at H
    obtain ⟨rfl, rfl, rfl⟩ := H
    have hnb74 := NB386_385.out
    have hnc74 := NB385_386.out
    have hnb75 := NB386_387.out
    have hnc75 := NB387_386.out
    obtain ⟨hcz76_0, hcz76_1, hcz76_2, hfz76_0, hfz76_1, hfz76_2⟩ := c3_ BK386
    go_wp2_with (first | ((with_reducible refine gate_builtin (b := .append) (xs := #[.tmp 41, .tmp 43]) rfl ?_); at_builtin; refine Kd.R_append k71 (w0 := w) w.heap.size rfl (.tmp 41) (.tmp 43) 22 71 (.agg #[(.string ⟨#[]⟩), (.string ⟨#[]⟩), (.int .i64 0)]) 40 rfl Try.underlying22 info71 rfl (by decide) (by omega) u5 x5_1 (⟨a1_0, a1_1, a1_2⟩ : S71) [.string a1_0, .string a1_1, .int .i64 a1_2] (fun k_ => k_ ≠ gb386) (fun _ => False) rfl rfl ?aP (fun _ hk => hk.elim) ?aF ?aO ?aB ?aS ?aL ?_; (case aP => exact k71_mkM _ _ _ (⟨a1_0, a1_1, a1_2⟩ : S71)); (case aB => exact (bl_3 HB GE385 GE386 GE387)); (case aF => exact (fun k_ hk => Kd.freshB (g := gb386) (o := .cells #[.string a1_0, .string a1_1, .int .i64 a1_2] 71 (0, 0)) (bk_ BK386) k_ hk)); (case aO => exact (by refine rq_ ?_; exact HO_5.out)); (case aS => exact (below_size (bl_3 HB GE385 GE386 GE387))); (case aL => have := LMc73.out; omega); intro v389 w77 ho hb hg hat; rw [← Ny388.out] at ho; replace BK385 := a_ (blk_grown (g := gb385) (o := .cells #[.slice A0_0 l0_0.length c0_0, .bool a0_1, .int .i64 a0_2] 24 (0, 0)) (bk_ BK385) hg (Kd.R_ne HO_5.out BK385.out (by decide))); replace BK386 := a_ (blk_grown (g := gb386) (o := .cells #[.string a1_0, .string a1_1, .int .i64 a1_2] 71 (0, 0)) (bk_ BK386) hg (Kd.R_away HO_5.out (fun _ hk => hk))); replace BK387 := a_ (blk_grown (g := gb387) (o := .cells #[.slice none 0 0, .bool false, .int .i64 0] 24 (0, 0)) (bk_ BK387) hg (Kd.R_ne HO_5.out BK387.out (by decide))); replace HB := a_ (hb); have HO390 := a_ (ho); clear HO_5; clear ho hb hg hat; obtain ⟨Ao78, co78, eo78⟩ := Kd.R_slice HO390.out; subst eo78; have hnb79 := NB385_387.out; have hnc79 := NB387_385.out; obtain ⟨hcz80_0, hcz80_1, hcz80_2, hfz80_0, hfz80_1, hfz80_2⟩ := c3_ BK385; obtain ⟨hcz81_0, hcz81_1, hcz81_2, hfz81_0, hfz81_1, hfz81_2⟩ := c3_ BK387))
    refine bodyPost_ret (results_cell_row rfl _ _ gb387 24 #[.slice Ao78 y388.length co78, .bool a0_1, .int .i64 a0_2] (0, 0) _ rfl (bp_1 BK387 NB387_385) Try.underlying24 rfl (by kernel_rfl)) rfl ?_
    exact ⟨_, fz_, by refine rq_ ?_; exact Kd.R_mono (Kd.R_far (p := ⟨gb387, 2, none⟩) (Kd.R_far (p := ⟨gb387, 1, none⟩) (Kd.R_far (p := ⟨gb387, 0, none⟩) (Kd.R_far (p := ⟨gb385, 0, none⟩) (Kd.R_types (Kd.R_types HO390.out BK385.out (by decide)) BK387.out (by decide)) (fun _ hk => hk.1.2) (.slice Ao78 y388.length co78)) (fun _ hk => hk.2) (.slice Ao78 y388.length co78)) (fun _ hk => hk.2) (.bool a0_1)) (fun _ hk => hk.2) (.int .i64 a0_2)) (fun _ hk => trivial), bl_3 HB GE385 GE386 GE387⟩
   rw [if_pos c9] at H
   have c9b0 : decide (x12_1 < (l0_0.length : Int)) = true := decide_eq_true c9
   clear c9
   by_cases c10 : 0 ≤ x12_1
   rotate_left
   ·rw [if_neg c10] at H
    exact absurd H (by simp)
   rw [if_pos c10] at H
   have c10b0 : decide (0 ≤ x12_1) = true := decide_eq_true c10
   clear c10
   by_cases c11 : x12_1 < (l0_0.length : Int)
   rotate_left
   ·rw [if_neg c11] at H
    exact absurd H (by simp)
   rw [if_pos c11] at H
   have c11b0 : decide (x12_1 < (l0_0.length : Int)) = true := decide_eq_true c11
   clear c11
   have HC12 := a_ H
   clear H
   have p391 : 0 ≤ (x12_1 : Int) := od_
   have q391 : x12_1 < (l0_0.length : Int) := od_
   obtain ⟨ad391, e391, hx391_0, hx391_1, hx391_2⟩ := at_T71 HR0_0.out x12_1 p391 q391
   cases e391
   replace hx391_0 := hc_ HB hx391_0
   replace hx391_1 := hc_ HB hx391_1
   replace hx391_2 := hc_ HB hx391_2
   replace p391 := eq_true p391
   replace q391 := eq_true q391
   go_upto_region 6 with (first | ((with_reducible refine gd_ 8 ?_); refine bx_ 8 #[.string (⟨#[]⟩ : ByteArray), .string (⟨#[]⟩ : ByteArray), .int .i64 0] 71 ?_; intro gb392 hg w13 hbox hb; replace HO_5 := a_ (Kd.R_below (Kd.R_elderB (by refine rq_ ?_; exact HO_5.out) gb392 (Nat.le_of_eq hg.symm)) hb); have BK392 := a_ (hbox); have GE392 := a_ (bs_3 hg HB GE385 GE386 GE387); replace HB := hB_ (bl_3 HB GE385 GE386 GE387) hb; have NB385_392 := nB_ hg BK385; have NB392_385 := nC_ hg BK385; replace BK385 := bB_ BK385 hb; have NB386_392 := nB_ hg BK386; have NB392_386 := nC_ hg BK386; replace BK386 := bB_ BK386 hb; have NB387_392 := nB_ hg BK387; have NB392_387 := nC_ hg BK387; replace BK387 := bB_ BK387 hb; clear hb hbox hg; have hnb14 := NB392_385.out; have hnc14 := NB385_392.out; have hnb15 := NB392_386.out; have hnc15 := NB386_392.out; have hnb16 := NB392_387.out; have hnc16 := NB387_392.out; obtain ⟨hcz17_0, hcz17_1, hcz17_2, hfz17_0, hfz17_1, hfz17_2⟩ := c3_ BK392))
   (try simp only [Act.put, List.setIfInBounds_toArray, List.set_cons_zero, List.set_cons_succ])
   go_cut [24] (fun v24 wc => ∃ (kq : Nat) (x24_11 : Bool), v24 = .bool x24_11 ∧ Aside0 (gafferref02_with.j1 kq x5_1 x6_1 l0_0 (l0_0.length : Int) x12_1 x24_11 l0_0 a0_1 a0_2 a1_0 a1_1 a1_2 ((rd_T71 l0_0 x12_1).f0) ((rd_T71 l0_0 x12_1).f1) ((rd_T71 l0_0 x12_1).f2) = some (r1, r2, r3)) ∧ Aside0 (kq ≤ k1) ∧ Aside0 (Kd.R k71 71 wc w.heap.size (fun k_ => k_ ≠ gb386 ∧ k_ ≠ gb392) u5 x5_1) ∧ Aside0 (wc.heap[gb385]? = some (.cells #[(.slice (some ad391) l0_0.length c0_0), .bool a0_1, .int .i64 a0_2] 24 (0, 0))) ∧ Aside0 (wc.heap[gb386]? = some (.cells #[.string a1_0, .string a1_1, .int .i64 a1_2] 71 (0, 0))) ∧ Aside0 (wc.heap[gb387]? = some (.cells #[(.slice none 0 0), .bool false, .int .i64 0] 24 (0, 0))) ∧ Aside0 (wc.heap[gb392]? = some (.cells #[.string ((rd_T71 l0_0 x12_1).f0), .string ((rd_T71 l0_0 x12_1).f1), .int .i64 ((rd_T71 l0_0 x12_1).f2)] 71 (0, 0))) ∧ Aside0 (Below w.heap.size w wc))
   case first =>
    have H := HC12.out
    clear HC12
    by_cases c18 : x6_1 = true
    ·subst c18
     have H1 : (gafferref02_with.j1 k1 x5_1 true l0_0 (l0_0.length : Int) x12_1 false l0_0 a0_1 a0_2 a1_0 a1_1 a1_2 ((rd_T71 l0_0 x12_1).f0) ((rd_T71 l0_0 x12_1).f1) ((rd_T71 l0_0 x12_1).f2)) = some (r1, r2, r3) := by rw [if_pos rfl] at H; exact H
     clear H
     have H := H1
     clear H1
     have H' := a_ H
     clear H
     go_wp2
     try go_wp2
     go_meet
     case rel => exact ⟨_, (false), fz_, H', ⟨by have := HK1.out; first | omega | exact Nat.le_refl _⟩, ⟨by refine rq_ ?_; exact Kd.R_mono (Kd.R_far (p := ⟨gb392, 2, none⟩) (Kd.R_far (p := ⟨gb392, 1, none⟩) (Kd.R_far (p := ⟨gb392, 0, none⟩) (Kd.R_mono HO_5.out (fun k_ hk => (⟨hk, hk.2⟩ : _ ∧ k_ ≠ gb392))) (fun _ hk => hk.2) (.string ((rd_T71 l0_0 x12_1).f0))) (fun _ hk => hk.2) (.string ((rd_T71 l0_0 x12_1).f1))) (fun _ hk => hk.2) (.int .i64 ((rd_T71 l0_0 x12_1).f2))) (fun _ hk => ⟨hk.1.1, hk.1.2⟩)⟩, ⟨by refine bq_ ?_; refine blk_far ?_ NB385_392.out _; refine bq_ ?_; refine blk_far ?_ NB385_392.out _; refine bq_ ?_; refine blk_far ?_ NB385_392.out _; refine bq_ ?_; exact BK385.out⟩, ⟨by refine bq_ ?_; refine blk_far ?_ NB386_392.out _; refine bq_ ?_; refine blk_far ?_ NB386_392.out _; refine bq_ ?_; refine blk_far ?_ NB386_392.out _; refine bq_ ?_; exact BK386.out⟩, ⟨by refine bq_ ?_; refine blk_far ?_ NB387_392.out _; refine bq_ ?_; refine blk_far ?_ NB387_392.out _; refine bq_ ?_; refine blk_far ?_ NB387_392.out _; refine bq_ ?_; exact BK387.out⟩, ⟨by refine bq_ ?_; refine blk_put (cs := #[.string ((rd_T71 l0_0 x12_1).f0), .string ((rd_T71 l0_0 x12_1).f1), .int .i64 0]) ?_ 2 _ rfl; refine bq_ ?_; refine blk_put (cs := #[.string ((rd_T71 l0_0 x12_1).f0), .string (⟨#[]⟩ : ByteArray), .int .i64 0]) ?_ 1 _ rfl; refine bq_ ?_; refine blk_put (cs := #[.string (⟨#[]⟩ : ByteArray), .string (⟨#[]⟩ : ByteArray), .int .i64 0]) ?_ 0 _ rfl; refine bq_ ?_; exact BK392.out⟩, ⟨bl_4 HB GE385 GE386 GE387 GE392⟩⟩
    replace c18 := Bool.eq_false_iff.mpr c18
    subst c18
    have H1 : (gafferref02_with.j1 k1 x5_1 false l0_0 (l0_0.length : Int) x12_1 (!(Op.bytesLess (((rd_T71 l0_0 x12_1).f0).toList) a1_0.toList)) l0_0 a0_1 a0_2 a1_0 a1_1 a1_2 ((rd_T71 l0_0 x12_1).f0) ((rd_T71 l0_0 x12_1).f1) ((rd_T71 l0_0 x12_1).f2)) = some (r1, r2, r3) := by rw [if_neg (show ¬ (false = true) by decide)] at H; exact H
    clear H
    have H := H1
    clear H1
    have H' := a_ H
    clear H
    have hnb19 := NB392_385.out
    have hnc19 := NB385_392.out
    have hnb20 := NB392_386.out
    have hnc20 := NB386_392.out
    have hnb21 := NB392_387.out
    have hnc21 := NB387_392.out
    obtain ⟨hcz22_0, hcz22_1, hcz22_2, hfz22_0, hfz22_1, hfz22_2⟩ := c3_ BK392
    have hnb23 := NB386_385.out
    have hnc23 := NB385_386.out
    have hnb24 := NB386_387.out
    have hnc24 := NB387_386.out
    obtain ⟨hcz25_0, hcz25_1, hcz25_2, hfz25_0, hfz25_1, hfz25_2⟩ := c3_ BK386
    go_wp2
    try go_wp2
    go_meet
    case rel => exact ⟨_, (!(Op.bytesLess (((rd_T71 l0_0 x12_1).f0).toList) a1_0.toList)), fz_, H', ⟨by have := HK1.out; first | omega | exact Nat.le_refl _⟩, ⟨by refine rq_ ?_; exact Kd.R_mono (Kd.R_far (p := ⟨gb392, 2, none⟩) (Kd.R_far (p := ⟨gb392, 1, none⟩) (Kd.R_far (p := ⟨gb392, 0, none⟩) (Kd.R_mono HO_5.out (fun k_ hk => (⟨hk, hk.2⟩ : _ ∧ k_ ≠ gb392))) (fun _ hk => hk.2) (.string ((rd_T71 l0_0 x12_1).f0))) (fun _ hk => hk.2) (.string ((rd_T71 l0_0 x12_1).f1))) (fun _ hk => hk.2) (.int .i64 ((rd_T71 l0_0 x12_1).f2))) (fun _ hk => ⟨hk.1.1, hk.1.2⟩)⟩, ⟨by refine bq_ ?_; refine blk_far ?_ NB385_392.out _; refine bq_ ?_; refine blk_far ?_ NB385_392.out _; refine bq_ ?_; refine blk_far ?_ NB385_392.out _; refine bq_ ?_; exact BK385.out⟩, ⟨by refine bq_ ?_; refine blk_far ?_ NB386_392.out _; refine bq_ ?_; refine blk_far ?_ NB386_392.out _; refine bq_ ?_; refine blk_far ?_ NB386_392.out _; refine bq_ ?_; exact BK386.out⟩, ⟨by refine bq_ ?_; refine blk_far ?_ NB387_392.out _; refine bq_ ?_; refine blk_far ?_ NB387_392.out _; refine bq_ ?_; refine blk_far ?_ NB387_392.out _; refine bq_ ?_; exact BK387.out⟩, ⟨by refine bq_ ?_; refine blk_put (cs := #[.string ((rd_T71 l0_0 x12_1).f0), .string ((rd_T71 l0_0 x12_1).f1), .int .i64 0]) ?_ 2 _ rfl; refine bq_ ?_; refine blk_put (cs := #[.string ((rd_T71 l0_0 x12_1).f0), .string (⟨#[]⟩ : ByteArray), .int .i64 0]) ?_ 1 _ rfl; refine bq_ ?_; refine blk_put (cs := #[.string (⟨#[]⟩ : ByteArray), .string (⟨#[]⟩ : ByteArray), .int .i64 0]) ?_ 0 _ rfl; refine bq_ ?_; exact BK392.out⟩, ⟨bl_4 HB GE385 GE386 GE387 GE392⟩⟩
   case rest =>
    clear HC12
    try clear c1
    try clear c2
    try clear p2
    try clear p3
    try clear q3
    try clear hx3
    try clear c6
    try clear c7
    try clear c9
    try clear c9b0
    try clear c10
    try clear c10b0
    try clear c11
    try clear c11b0
    try clear c14
    try clear c15
    try clear c16
    try clear c18
    try clear c19
    try clear c20
    try clear c21
    try clear c23
    try clear c24
    try clear hx391_0
    try clear hx391_1
    try clear hx391_2
    try clear p2
    try clear p391
    try clear q391
    obtain ⟨kq, x24_11, rfl, HA, HJ11, HO_5, BK385, BK386, BK387, BK392, HB⟩ := hcut
    cases kq with
    | zero => exact absurd HA.out (by simp [gafferref02_with.j1])
    | succ kj11 =>
     have H := HA.out
     clear HA
     simp only [gafferref02_with.j1] at H
     by_cases c26 : x24_11 = true
     rotate_left
     ·replace c26 := Bool.eq_false_iff.mpr c26
      subst c26
      have H1 : (if ((rd_T71 l0_0 x12_1).f0).toList = a1_0.toList then (gafferref02_with.l0 kj11 x5_1 x6_1 l0_0 (l0_0.length : Int) (wrap64 (x12_1 + 1)) l0_0 a0_1 a0_2 a1_0 a1_1 a1_2) else (if x5_1.length < 3518437208883 then (gafferref02_with.l0 kj11 (x5_1 ++ [(⟨((rd_T71 l0_0 x12_1).f0), ((rd_T71 l0_0 x12_1).f1), ((rd_T71 l0_0 x12_1).f2)⟩ : S71)]) x6_1 l0_0 (l0_0.length : Int) (wrap64 (x12_1 + 1)) l0_0 a0_1 a0_2 a1_0 a1_1 a1_2) else (none))) = some (r1, r2, r3) := by rw [if_neg (show ¬ (false = true) by decide)] at H; exact H
      clear H
      have H := H1
      clear H1
      by_cases c49 : ((rd_T71 l0_0 x12_1).f0).toList = a1_0.toList
      ·rw [if_pos c49] at H
       have c49b0 : (((rd_T71 l0_0 x12_1).f0).toList == a1_0.toList) = true := beq_iff_eq.mpr c49
       have c49b1 : (((rd_T71 l0_0 x12_1).f0).toList != a1_0.toList) = false := bne_eq_false_iff_eq.mpr c49
       clear c49
       have H' := a_ H
       clear H
       have hnb50 := NB392_385.out
       have hnc50 := NB385_392.out
       have hnb51 := NB392_386.out
       have hnc51 := NB386_392.out
       have hnb52 := NB392_387.out
       have hnc52 := NB387_392.out
       obtain ⟨hcz53_0, hcz53_1, hcz53_2, hfz53_0, hfz53_1, hfz53_2⟩ := c3_ BK392
       have hnb54 := NB386_385.out
       have hnc54 := NB385_386.out
       have hnb55 := NB386_387.out
       have hnc55 := NB387_386.out
       obtain ⟨hcz56_0, hcz56_1, hcz56_2, hfz56_0, hfz56_1, hfz56_2⟩ := c3_ BK386
       go_wp2
       go_roundg kj11
       case measure => have := HK1.out; have := HJ11.out; omega
       case rel => exact ⟨(x5_1), (x6_1), (wrap64 (x12_1 + 1)), fz_, fz_, H', ⟨by have := HK1.out; have := HJ11.out; omega⟩, ⟨by refine rq_ ?_; exact Kd.R_mono HO_5.out (fun _ hk => hk.1)⟩, ⟨bk_ BK385⟩, ⟨bk_ BK386⟩, ⟨bk_ BK387⟩, ⟨bl_4 HB GE385 GE386 GE387 GE392⟩⟩
      rw [if_neg c49] at H
      have c49b0 : (((rd_T71 l0_0 x12_1).f0).toList == a1_0.toList) = false := beq_eq_false_iff_ne.mpr c49
      have c49b1 : (((rd_T71 l0_0 x12_1).f0).toList != a1_0.toList) = true := bne_iff_ne.mpr c49
      by_cases c57 : x5_1.length < 3518437208883
      rotate_left
      ·rw [if_neg c57] at H
       exact absurd H (by simp)
      rw [if_pos c57] at H
      have LMc57 := a_ c57
      clear c57
      obtain ⟨y399, hy399⟩ : ∃ y_ : List (S71), y_ = (x5_1 ++ [(⟨((rd_T71 l0_0 x12_1).f0), ((rd_T71 l0_0 x12_1).f1), ((rd_T71 l0_0 x12_1).f2)⟩ : S71)]) := ⟨_, rfl⟩
      replace H : (gafferref02_with.l0 kj11 y399 x6_1 l0_0 (l0_0.length : Int) (wrap64 (x12_1 + 1)) l0_0 a0_1 a0_2 a1_0 a1_1 a1_2) = some (r1, r2, r3) := by first | (rw [hy399]; with_reducible exact H) | (have H2_ := (Option.bind_some _ _).symm.trans H; rw [hy399]; with_reducible exact H2_) | (have H2_ := (Option.bind_some _ _).symm.trans H; with_reducible exact H2_) | with_reducible exact H | (rw [hy399]; exact H) | exact H
      have Ny399 := a_ hy399
      clear hy399
      have H' := a_ H
      clear H
      have hnb58 := NB392_385.out
      have hnc58 := NB385_392.out
      have hnb59 := NB392_386.out
      have hnc59 := NB386_392.out
      have hnb60 := NB392_387.out
      have hnc60 := NB387_392.out
      obtain ⟨hcz61_0, hcz61_1, hcz61_2, hfz61_0, hfz61_1, hfz61_2⟩ := c3_ BK392
      have hnb62 := NB386_385.out
      have hnc62 := NB385_386.out
      have hnb63 := NB386_387.out
      have hnc63 := NB387_386.out
      obtain ⟨hcz64_0, hcz64_1, hcz64_2, hfz64_0, hfz64_1, hfz64_2⟩ := c3_ BK386
      go_wp2_with (first | ((with_reducible refine gate_builtin (b := .append) (xs := #[.tmp 34, .tmp 36]) rfl ?_); at_builtin; refine Kd.R_append k71 (w0 := w) w.heap.size rfl (.tmp 34) (.tmp 36) 22 71 (.agg #[(.string ⟨#[]⟩), (.string ⟨#[]⟩), (.int .i64 0)]) 40 rfl Try.underlying22 info71 rfl (by decide) (by omega) u5 x5_1 (⟨((rd_T71 l0_0 x12_1).f0), ((rd_T71 l0_0 x12_1).f1), ((rd_T71 l0_0 x12_1).f2)⟩ : S71) [.string ((rd_T71 l0_0 x12_1).f0), .string ((rd_T71 l0_0 x12_1).f1), .int .i64 ((rd_T71 l0_0 x12_1).f2)] (fun k_ => k_ ≠ gb386 ∧ k_ ≠ gb392) (fun _ => False) rfl rfl ?aP (fun _ hk => hk.elim) ?aF ?aO ?aB ?aS ?aL ?_; (case aP => exact k71_mkM _ _ _ (⟨((rd_T71 l0_0 x12_1).f0), ((rd_T71 l0_0 x12_1).f1), ((rd_T71 l0_0 x12_1).f2)⟩ : S71)); (case aB => exact (bl_4 HB GE385 GE386 GE387 GE392)); (case aF => exact (fun k_ hk => ⟨Kd.freshB (g := gb386) (o := .cells #[.string a1_0, .string a1_1, .int .i64 a1_2] 71 (0, 0)) (bk_ BK386) k_ hk, Kd.freshB (g := gb392) (o := .cells #[.string ((rd_T71 l0_0 x12_1).f0), .string ((rd_T71 l0_0 x12_1).f1), .int .i64 ((rd_T71 l0_0 x12_1).f2)] 71 (0, 0)) (bk_ BK392) k_ hk⟩)); (case aO => exact (by refine rq_ ?_; exact HO_5.out)); (case aS => exact (below_size (bl_4 HB GE385 GE386 GE387 GE392))); (case aL => have := LMc57.out; omega); intro v400 w65 ho hb hg hat; rw [← Ny399.out] at ho; replace BK385 := a_ (blk_grown (g := gb385) (o := .cells #[.slice (some ad391) l0_0.length c0_0, .bool a0_1, .int .i64 a0_2] 24 (0, 0)) (bk_ BK385) hg (Kd.R_ne HO_5.out BK385.out (by decide))); replace BK386 := a_ (blk_grown (g := gb386) (o := .cells #[.string a1_0, .string a1_1, .int .i64 a1_2] 71 (0, 0)) (bk_ BK386) hg (Kd.R_away HO_5.out (fun _ hk => hk.1))); replace BK387 := a_ (blk_grown (g := gb387) (o := .cells #[.slice none 0 0, .bool false, .int .i64 0] 24 (0, 0)) (bk_ BK387) hg (Kd.R_ne HO_5.out BK387.out (by decide))); replace BK392 := a_ (blk_grown (g := gb392) (o := .cells #[.string ((rd_T71 l0_0 x12_1).f0), .string ((rd_T71 l0_0 x12_1).f1), .int .i64 ((rd_T71 l0_0 x12_1).f2)] 71 (0, 0)) (bk_ BK392) hg (Kd.R_away HO_5.out (fun _ hk => hk.2))); replace HB := a_ (hb); have HO401 := a_ (ho); clear HO_5; clear ho hb hg hat))
      go_roundg kj11
      case measure => have := HK1.out; have := HJ11.out; omega
      case rel => exact ⟨(y399), (x6_1), (wrap64 (x12_1 + 1)), fz_, fz_, H', ⟨by have := HK1.out; have := HJ11.out; omega⟩, ⟨by refine rq_ ?_; exact Kd.R_mono HO401.out (fun _ hk => hk.1)⟩, ⟨bk_ BK385⟩, ⟨bk_ BK386⟩, ⟨bk_ BK387⟩, ⟨bl_4 HB GE385 GE386 GE387 GE392⟩⟩
     subst c26
     have H1 : (if x5_1.length < 3518437208883 then ((some (x5_1 ++ [(⟨a1_0, a1_1, a1_2⟩ : S71)] : List (S71))).bind fun y393 => (if ((rd_T71 l0_0 x12_1).f0).toList = a1_0.toList then (gafferref02_with.l0 kj11 y393 true l0_0 (l0_0.length : Int) (wrap64 (x12_1 + 1)) l0_0 a0_1 a0_2 a1_0 a1_1 a1_2) else (if y393.length < 3518437208883 then (gafferref02_with.l0 kj11 (y393 ++ [(⟨((rd_T71 l0_0 x12_1).f0), ((rd_T71 l0_0 x12_1).f1), ((rd_T71 l0_0 x12_1).f2)⟩ : S71)]) true l0_0 (l0_0.length : Int) (wrap64 (x12_1 + 1)) l0_0 a0_1 a0_2 a1_0 a1_1 a1_2) else (none)))) else (none)) = some (r1, r2, r3) := by rw [if_pos rfl] at H; exact H
     clear H
     have H := H1
     clear H1
     by_cases c27 : x5_1.length < 3518437208883
     rotate_left
     ·rw [if_neg c27] at H
      exact absurd H (by simp)
     rw [if_pos c27] at H
     have LMc27 := a_ c27
     clear c27
     obtain ⟨y393, hy393⟩ : ∃ y_ : List (S71), y_ = (x5_1 ++ [(⟨a1_0, a1_1, a1_2⟩ : S71)]) := ⟨_, rfl⟩
     replace H : (if ((rd_T71 l0_0 x12_1).f0).toList = a1_0.toList then (gafferref02_with.l0 kj11 y393 true l0_0 (l0_0.length : Int) (wrap64 (x12_1 + 1)) l0_0 a0_1 a0_2 a1_0 a1_1 a1_2) else (if y393.length < 3518437208883 then (gafferref02_with.l0 kj11 (y393 ++ [(⟨((rd_T71 l0_0 x12_1).f0), ((rd_T71 l0_0 x12_1).f1), ((rd_T71 l0_0 x12_1).f2)⟩ : S71)]) true l0_0 (l0_0.length : Int) (wrap64 (x12_1 + 1)) l0_0 a0_1 a0_2 a1_0 a1_1 a1_2) else (none))) = some (r1, r2, r3) := by first | (rw [hy393]; with_reducible exact H) | (have H2_ := (Option.bind_some _ _).symm.trans H; rw [hy393]; with_reducible exact H2_) | (have H2_ := (Option.bind_some _ _).symm.trans H; with_reducible exact H2_) | with_reducible exact H | (rw [hy393]; exact H) | exact H
     have Ny393 := a_ hy393
     clear hy393
     by_cases c28 : ((rd_T71 l0_0 x12_1).f0).toList = a1_0.toList
     ·rw [if_pos c28] at H
      have c28b0 : (((rd_T71 l0_0 x12_1).f0).toList == a1_0.toList) = true := beq_iff_eq.mpr c28
      have c28b1 : (((rd_T71 l0_0 x12_1).f0).toList != a1_0.toList) = false := bne_eq_false_iff_eq.mpr c28
      clear c28
      have H' := a_ H
      clear H
      have hnb29 := NB386_385.out
      have hnc29 := NB385_386.out
      have hnb30 := NB386_387.out
      have hnc30 := NB387_386.out
      have hnb31 := NB386_392.out
      have hnc31 := NB392_386.out
      obtain ⟨hcz32_0, hcz32_1, hcz32_2, hfz32_0, hfz32_1, hfz32_2⟩ := c3_ BK386
      go_wp2_with (first | ((with_reducible refine gate_builtin (b := .append) (xs := #[.tmp 25, .tmp 27]) rfl ?_); at_builtin; refine Kd.R_append k71 (w0 := w) w.heap.size rfl (.tmp 25) (.tmp 27) 22 71 (.agg #[(.string ⟨#[]⟩), (.string ⟨#[]⟩), (.int .i64 0)]) 40 rfl Try.underlying22 info71 rfl (by decide) (by omega) u5 x5_1 (⟨a1_0, a1_1, a1_2⟩ : S71) [.string a1_0, .string a1_1, .int .i64 a1_2] (fun k_ => k_ ≠ gb386 ∧ k_ ≠ gb392) (fun _ => False) rfl rfl ?aP (fun _ hk => hk.elim) ?aF ?aO ?aB ?aS ?aL ?_; (case aP => exact k71_mkM _ _ _ (⟨a1_0, a1_1, a1_2⟩ : S71)); (case aB => exact (bl_4 HB GE385 GE386 GE387 GE392)); (case aF => exact (fun k_ hk => ⟨Kd.freshB (g := gb386) (o := .cells #[.string a1_0, .string a1_1, .int .i64 a1_2] 71 (0, 0)) (bk_ BK386) k_ hk, Kd.freshB (g := gb392) (o := .cells #[.string ((rd_T71 l0_0 x12_1).f0), .string ((rd_T71 l0_0 x12_1).f1), .int .i64 ((rd_T71 l0_0 x12_1).f2)] 71 (0, 0)) (bk_ BK392) k_ hk⟩)); (case aO => exact (by refine rq_ ?_; exact HO_5.out)); (case aS => exact (below_size (bl_4 HB GE385 GE386 GE387 GE392))); (case aL => have := LMc27.out; omega); intro v394 w33 ho hb hg hat; rw [← Ny393.out] at ho; replace BK385 := a_ (blk_grown (g := gb385) (o := .cells #[.slice (some ad391) l0_0.length c0_0, .bool a0_1, .int .i64 a0_2] 24 (0, 0)) (bk_ BK385) hg (Kd.R_ne HO_5.out BK385.out (by decide))); replace BK386 := a_ (blk_grown (g := gb386) (o := .cells #[.string a1_0, .string a1_1, .int .i64 a1_2] 71 (0, 0)) (bk_ BK386) hg (Kd.R_away HO_5.out (fun _ hk => hk.1))); replace BK387 := a_ (blk_grown (g := gb387) (o := .cells #[.slice none 0 0, .bool false, .int .i64 0] 24 (0, 0)) (bk_ BK387) hg (Kd.R_ne HO_5.out BK387.out (by decide))); replace BK392 := a_ (blk_grown (g := gb392) (o := .cells #[.string ((rd_T71 l0_0 x12_1).f0), .string ((rd_T71 l0_0 x12_1).f1), .int .i64 ((rd_T71 l0_0 x12_1).f2)] 71 (0, 0)) (bk_ BK392) hg (Kd.R_away HO_5.out (fun _ hk => hk.2))); replace HB := a_ (hb); have HO395 := a_ (ho); clear HO_5; clear ho hb hg hat; have hnb34 := NB392_385.out; have hnc34 := NB385_392.out; have hnb35 := NB392_387.out; have hnc35 := NB387_392.out; obtain ⟨hcz36_0, hcz36_1, hcz36_2, hfz36_0, hfz36_1, hfz36_2⟩ := c3_ BK392; obtain ⟨hcz37_0, hcz37_1, hcz37_2, hfz37_0, hfz37_1, hfz37_2⟩ := c3_ BK386))
      go_roundg kj11
      case measure => have := HK1.out; have := HJ11.out; omega
      case rel => exact ⟨(y393), (true), (wrap64 (x12_1 + 1)), fz_, fz_, H', ⟨by have := HK1.out; have := HJ11.out; omega⟩, ⟨by refine rq_ ?_; exact Kd.R_mono HO395.out (fun _ hk => hk.1)⟩, ⟨bk_ BK385⟩, ⟨bk_ BK386⟩, ⟨bk_ BK387⟩, ⟨bl_4 HB GE385 GE386 GE387 GE392⟩⟩
     rw [if_neg c28] at H
     have c28b0 : (((rd_T71 l0_0 x12_1).f0).toList == a1_0.toList) = false := beq_eq_false_iff_ne.mpr c28
     have c28b1 : (((rd_T71 l0_0 x12_1).f0).toList != a1_0.toList) = true := bne_iff_ne.mpr c28
     by_cases c38 : y393.length < 3518437208883
     rotate_left
     ·rw [if_neg c38] at H
      exact absurd H (by simp)
     rw [if_pos c38] at H
     have LMc38 := a_ c38
     clear c38
     obtain ⟨y396, hy396⟩ : ∃ y_ : List (S71), y_ = (y393 ++ [(⟨((rd_T71 l0_0 x12_1).f0), ((rd_T71 l0_0 x12_1).f1), ((rd_T71 l0_0 x12_1).f2)⟩ : S71)]) := ⟨_, rfl⟩
     replace H : (gafferref02_with.l0 kj11 y396 true l0_0 (l0_0.length : Int) (wrap64 (x12_1 + 1)) l0_0 a0_1 a0_2 a1_0 a1_1 a1_2) = some (r1, r2, r3) := by first | (rw [hy396]; with_reducible exact H) | (have H2_ := (Option.bind_some _ _).symm.trans H; rw [hy396]; with_reducible exact H2_) | (have H2_ := (Option.bind_some _ _).symm.trans H; with_reducible exact H2_) | with_reducible exact H | (rw [hy396]; exact H) | exact H
     have Ny396 := a_ hy396
     clear hy396
     have H' := a_ H
     clear H
     have hnb39 := NB386_385.out
     have hnc39 := NB385_386.out
     have hnb40 := NB386_387.out
     have hnc40 := NB387_386.out
     have hnb41 := NB386_392.out
     have hnc41 := NB392_386.out
     obtain ⟨hcz42_0, hcz42_1, hcz42_2, hfz42_0, hfz42_1, hfz42_2⟩ := c3_ BK386
     go_wp2_with (first | ((with_reducible refine gate_builtin (b := .append) (xs := #[.tmp 25, .tmp 27]) rfl ?_); at_builtin; refine Kd.R_append k71 (w0 := w) w.heap.size rfl (.tmp 25) (.tmp 27) 22 71 (.agg #[(.string ⟨#[]⟩), (.string ⟨#[]⟩), (.int .i64 0)]) 40 rfl Try.underlying22 info71 rfl (by decide) (by omega) u5 x5_1 (⟨a1_0, a1_1, a1_2⟩ : S71) [.string a1_0, .string a1_1, .int .i64 a1_2] (fun k_ => k_ ≠ gb386 ∧ k_ ≠ gb392) (fun _ => False) rfl rfl ?aP (fun _ hk => hk.elim) ?aF ?aO ?aB ?aS ?aL ?_; (case aP => exact k71_mkM _ _ _ (⟨a1_0, a1_1, a1_2⟩ : S71)); (case aB => exact (bl_4 HB GE385 GE386 GE387 GE392)); (case aF => exact (fun k_ hk => ⟨Kd.freshB (g := gb386) (o := .cells #[.string a1_0, .string a1_1, .int .i64 a1_2] 71 (0, 0)) (bk_ BK386) k_ hk, Kd.freshB (g := gb392) (o := .cells #[.string ((rd_T71 l0_0 x12_1).f0), .string ((rd_T71 l0_0 x12_1).f1), .int .i64 ((rd_T71 l0_0 x12_1).f2)] 71 (0, 0)) (bk_ BK392) k_ hk⟩)); (case aO => exact (by refine rq_ ?_; exact HO_5.out)); (case aS => exact (below_size (bl_4 HB GE385 GE386 GE387 GE392))); (case aL => have := LMc27.out; omega); intro v394 w43 ho hb hg hat; rw [← Ny393.out] at ho; replace BK385 := a_ (blk_grown (g := gb385) (o := .cells #[.slice (some ad391) l0_0.length c0_0, .bool a0_1, .int .i64 a0_2] 24 (0, 0)) (bk_ BK385) hg (Kd.R_ne HO_5.out BK385.out (by decide))); replace BK386 := a_ (blk_grown (g := gb386) (o := .cells #[.string a1_0, .string a1_1, .int .i64 a1_2] 71 (0, 0)) (bk_ BK386) hg (Kd.R_away HO_5.out (fun _ hk => hk.1))); replace BK387 := a_ (blk_grown (g := gb387) (o := .cells #[.slice none 0 0, .bool false, .int .i64 0] 24 (0, 0)) (bk_ BK387) hg (Kd.R_ne HO_5.out BK387.out (by decide))); replace BK392 := a_ (blk_grown (g := gb392) (o := .cells #[.string ((rd_T71 l0_0 x12_1).f0), .string ((rd_T71 l0_0 x12_1).f1), .int .i64 ((rd_T71 l0_0 x12_1).f2)] 71 (0, 0)) (bk_ BK392) hg (Kd.R_away HO_5.out (fun _ hk => hk.2))); replace HB := a_ (hb); have HO395 := a_ (ho); clear HO_5; clear ho hb hg hat; have hnb44 := NB392_385.out; have hnc44 := NB385_392.out; have hnb45 := NB392_387.out; have hnc45 := NB387_392.out; obtain ⟨hcz46_0, hcz46_1, hcz46_2, hfz46_0, hfz46_1, hfz46_2⟩ := c3_ BK392; obtain ⟨hcz47_0, hcz47_1, hcz47_2, hfz47_0, hfz47_1, hfz47_2⟩ := c3_ BK386) | ((with_reducible refine gate_builtin (b := .append) (xs := #[.tmp 34, .tmp 36]) rfl ?_); at_builtin; refine Kd.R_append k71 (w0 := w) w.heap.size rfl (.tmp 34) (.tmp 36) 22 71 (.agg #[(.string ⟨#[]⟩), (.string ⟨#[]⟩), (.int .i64 0)]) 40 rfl Try.underlying22 info71 rfl (by decide) (by omega) v394 y393 (⟨((rd_T71 l0_0 x12_1).f0), ((rd_T71 l0_0 x12_1).f1), ((rd_T71 l0_0 x12_1).f2)⟩ : S71) [.string ((rd_T71 l0_0 x12_1).f0), .string ((rd_T71 l0_0 x12_1).f1), .int .i64 ((rd_T71 l0_0 x12_1).f2)] (fun k_ => k_ ≠ gb386 ∧ k_ ≠ gb392) (fun _ => False) rfl rfl ?aP (fun _ hk => hk.elim) ?aF ?aO ?aB ?aS ?aL ?_; (case aP => exact k71_mkM _ _ _ (⟨((rd_T71 l0_0 x12_1).f0), ((rd_T71 l0_0 x12_1).f1), ((rd_T71 l0_0 x12_1).f2)⟩ : S71)); (case aB => exact (bl_4 HB GE385 GE386 GE387 GE392)); (case aF => exact (fun k_ hk => ⟨Kd.freshB (g := gb386) (o := .cells #[.string a1_0, .string a1_1, .int .i64 a1_2] 71 (0, 0)) (bk_ BK386) k_ hk, Kd.freshB (g := gb392) (o := .cells #[.string ((rd_T71 l0_0 x12_1).f0), .string ((rd_T71 l0_0 x12_1).f1), .int .i64 ((rd_T71 l0_0 x12_1).f2)] 71 (0, 0)) (bk_ BK392) k_ hk⟩)); (case aO => exact (by refine rq_ ?_; exact HO395.out)); (case aS => exact (below_size (bl_4 HB GE385 GE386 GE387 GE392))); (case aL => have := LMc38.out; omega); intro v397 w48 ho hb hg hat; rw [← Ny396.out] at ho; replace BK385 := a_ (blk_grown (g := gb385) (o := .cells #[.slice (some ad391) l0_0.length c0_0, .bool a0_1, .int .i64 a0_2] 24 (0, 0)) (bk_ BK385) hg (Kd.R_ne HO395.out BK385.out (by decide))); replace BK386 := a_ (blk_grown (g := gb386) (o := .cells #[.string a1_0, .string a1_1, .int .i64 a1_2] 71 (0, 0)) (bk_ BK386) hg (Kd.R_away HO395.out (fun _ hk => hk.1))); replace BK387 := a_ (blk_grown (g := gb387) (o := .cells #[.slice none 0 0, .bool false, .int .i64 0] 24 (0, 0)) (bk_ BK387) hg (Kd.R_ne HO395.out BK387.out (by decide))); replace BK392 := a_ (blk_grown (g := gb392) (o := .cells #[.string ((rd_T71 l0_0 x12_1).f0), .string ((rd_T71 l0_0 x12_1).f1), .int .i64 ((rd_T71 l0_0 x12_1).f2)] 71 (0, 0)) (bk_ BK392) hg (Kd.R_away HO395.out (fun _ hk => hk.2))); replace HB := a_ (hb); have HO398 := a_ (ho); clear HO395; clear ho hb hg hat))
     go_roundg kj11
     case measure => have := HK1.out; have := HJ11.out; omega
     case rel => exact ⟨(y396), (true), (wrap64 (x12_1 + 1)), fz_, fz_, H', ⟨by have := HK1.out; have := HJ11.out; omega⟩, ⟨by refine rq_ ?_; exact Kd.R_mono HO398.out (fun _ hk => hk.1)⟩, ⟨bk_ BK385⟩, ⟨bk_ BK386⟩, ⟨bk_ BK387⟩, ⟨bl_4 HB GE385 GE386 GE387 GE392⟩⟩end Go.Proofs.Ytpigjmjbfpipnaa.PD
