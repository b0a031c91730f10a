-- By a program of this session.
import Derived.Test.YtpigjmjbfpipnaaPFx0
namespace Go.Proofs.Ytpigjmjbfpipnaa.PF
open Go.RowKit YtpigjmjbfpipnaaW.PrintWords YtpigjmjbfpipnaaW.PrintLast YtpigjmjbfpipnaaW.PrintMore Sh Ytpigjmjbfpipnaa.Op
attribute [local go_sem] max2_int min2_int max_two min_two max_three min_three max_four min_four
set_option linter.unusedVariables false
set_option linter.unusedSimpArgs false
set_option maxHeartbeats 80000000
set_option maxRecDepth 100000
theorem eqA71 (d : Nat) (w : World) (x0 y0 : ByteArray) (x1 y1 : ByteArray) (x2 y2 : Int) :
    (Op.equalIn (d + 2) 71 (.agg #[.string x0, .string x1, .int .i64 x2]) (.agg #[.string y0, .string y1, .int .i64 y2])).run Try.prog w = .ok (x0.toList == y0.toList && (x1.toList == y1.toList && (x2 == y2))) w := by
  refine eqA_of Try.underlying71 (by kernel_rfl) ?_
  refine eqf_cons (by rfl) (by go_simp; rfl) (by go_simp; rfl) (by go_simp) ?_
  refine eqf_cons (by rfl) (by go_simp; rfl) (by go_simp; rfl) (by go_simp) ?_
  exact eqf_last (by rfl) (by go_simp; rfl) (by go_simp; rfl) (by go_simp)
attribute [local go_sem high] eqA71
def gafferref02_Copy.f (l0_0 : List (S71)) (a0_1 : Bool) (a0_2 : Int) : Option ((List (S71)) × Bool × Int) := (some (([] : List (S71)) : List (S71))).bind fun y103 => (if y103.length + l0_0.length < 3518437208883 then (some ((y103 ++ l0_0), a0_1, a0_2)) else (none))
theorem gafferref02_Copy.calls (A0_0 : Option Addr) (c0_0 : Nat) (l0_0 : List (S71)) (a0_1 : Bool) (a0_2 : Int) (r1 : List (S71)) (r2 : Bool) (r3 : Int) (w : World) (hr0_0 : Kd.C k71 w A0_0 l0_0.length l0_0) (hc0_0 : l0_0.length ≤ c0_0) (h : gafferref02_Copy.f l0_0 a0_1 a0_2 = some (r1, r2, r3)) :
  Calls Try.prog 14 #[.agg #[.slice A0_0 l0_0.length c0_0, .bool a0_1, .int .i64 a0_2]] w fun e w' => ∃ v0_ : Value, e = .returned (.agg #[v0_, .bool r2, .int .i64 r3]) ∧ Kd.R k71 71 w' w.heap.size (fun _ => True) v0_ r1 ∧ Below w.heap.size w w' := by
 have hu_1 := Try.underlying24
 have HR_1 := a_ hr0_0
 have HC_1 := a_ hc0_0
 clear hr0_0 hc0_0
 have HB := a_ (Below.refl w.heap.size w)
 have H := h
 unfold gafferref02_Copy.f at H
 clear h
 obtain ⟨y_1, hy_1⟩ : ∃ y_ : List (S71), y_ = (([] : List (S71))) := ⟨_, rfl⟩
 replace H : (if y_1.length + l0_0.length < 3518437208883 then (some ((y_1 ++ l0_0), a0_1, a0_2)) else (none)) = some (r1, r2, r3) := by first | (rw [hy_1]; with_reducible exact H) | (have H_1 := (Option.bind_some _ _).symm.trans H; rw [hy_1]; with_reducible exact H_1) | (have H_1 := (Option.bind_some _ _).symm.trans H; with_reducible exact H_1) | with_reducible exact H | (rw [hy_1]; exact H) | exact H
 have Ny_1 := a_ hy_1
 clear hy_1
 replace H := iq_ H
 obtain ⟨c_1, H⟩ := H
 have LMc_1 := a_ c_1
 clear c_1
 obtain ⟨y_2, hy_2⟩ : ∃ y_ : List (S71), y_ = (y_1 ++ l0_0) := ⟨_, rfl⟩
 replace H : (some (y_2, a0_1, a0_2)) = some (r1, r2, r3) := by first | (rw [hy_2]; with_reducible exact H) | (have H_1 := (Option.bind_some _ _).symm.trans H; rw [hy_2]; with_reducible exact H_1) | (have H_1 := (Option.bind_some _ _).symm.trans H; with_reducible exact H_1) | with_reducible exact H | (rw [hy_2]; exact H) | exact H
 have Ny_2 := a_ hy_2
 clear hy_2
 obtain ⟨rfl, rfl, rfl⟩ := so3_ H
 go_enter Try.func14, Try.ntmps14
 go_wp2_with (first | ((with_reducible refine gd_ 1 ?_); refine bz_ 1 #[.slice A0_0 l0_0.length c0_0, .bool a0_1, .int .i64 a0_2] 24 ?_; intro gb_1 hg w_1 BK_1 hb; have GE_1 := a_ (bs_0 hg HB); replace HB := hB_ (bl_ HB) hb; clear hb hg) | ((with_reducible refine gd_ 2 ?_); refine bz_ 2 #[.slice none 0 0, .bool false, .int .i64 0] 24 ?_; intro gb_2 hg w_2 BK_2 hb; have GE_2 := a_ (bs_1 hg HB GE_1); replace HB := hB_ (bl_1 HB GE_1) hb; have NB_1 := nB_ hg BK_1; have NB_2 := nC_ hg BK_1; replace BK_1 := bB_ BK_1 hb; clear hb hg) | ((with_reducible refine gd_ 3 ?_); refine Kd.R_lit k71 _ 71 ?hg (N := 3) ?hd (xs := ([] : List (S71))) (inner := []) (ok := fun _ => True) (okp := fun _ => True) ?hr ?hp (fun _ hk => hk) trivial (Below.refl _ _) (Nat.le_refl _) (by simp) ?_; (case hd => rfl); (case hg => rfl); (case hr => first | (go_simp; done) | (go_simp; rfl)); (case hp => exact (Reps.none _ _)); intro v_1 w_3 ho_1 hb hg_ hnew_; clear hg_ hnew_; (first | rw [← Ny_1.out] at ho_1 | (simp only [Int.reduceToNat] at ho_1; rw [← Ny_1.out] at ho_1)); have HO_1 := a_ (Kd.R_lower ho_1 (below_size (bl_2 HB GE_1 GE_2))); replace BK_1 := bB_ BK_1 hb; replace BK_2 := bB_ BK_2 hb; replace HB := hB_ (bl_2 HB GE_1 GE_2) hb; clear hb ho_1; have := NB_1.out; have := NB_2.out; obtain ⟨_, _, _, _, _, _⟩ := c3_ BK_1) | ((with_reducible refine gate_builtin (b := .append) (xs := #[.tmp 3, .tmp 5]) rfl ?_); at_builtin; refine Kd.R_append_rows k71 (w0 := w) w.heap.size rfl (.tmp 3) (.tmp 5) 22 71 (.agg #[(.string ⟨#[]⟩), (.string ⟨#[]⟩), (.int .i64 0)]) 40 rfl Try.underlying22 info71 rfl (by decide) (by omega) v_1 y_1 l0_0 _ _ _ (fun _ => True) (fun _ => False) rfl rfl ?aO ?aR (fun _ _ h => h) (fun _ h => h.elim) ?aF ?aB ?aS ?aL ?_; (case aR => exact cl_ (Kd.C_below HR_1.out HB.out)); (case aB => exact (bl_2 HB GE_1 GE_2)); (case aF => exact (fun _ _ => trivial)); (case aO => exact (by refine rq_ ?_; exact HO_1.out)); (case aS => exact (below_size (bl_2 HB GE_1 GE_2))); (case aL => have := LMc_1.out; omega); intro v_2 w_4 ho hb hg hat; rw [← Ny_2.out] at ho; replace BK_1 := a_ (blk_grown (g := gb_1) (o := .cells #[.slice A0_0 l0_0.length c0_0, .bool a0_1, .int .i64 a0_2] 24 (0, 0)) (bk_ BK_1) hg (Kd.R_ne HO_1.out BK_1.out (by decide))); replace BK_2 := a_ (blk_grown (g := gb_2) (o := .cells #[.slice none 0 0, .bool false, .int .i64 0] 24 (0, 0)) (bk_ BK_2) hg (Kd.R_ne HO_1.out BK_2.out (by decide))); replace HB := a_ (hb); have HO_2 := a_ (ho); clear HO_1; clear ho hb hg hat; obtain ⟨Ao_1, co_1, eo_1⟩ := Kd.R_slice HO_2.out; subst eo_1; obtain ⟨_, _, _, _, _, _⟩ := c3_ BK_1; obtain ⟨_, _, _, _, _, _⟩ := c3_ BK_2))
 refine bodyPost_ret (results_cell_row rfl _ _ gb_2 24 #[.slice Ao_1 y_2.length co_1, .bool a0_1, .int .i64 a0_2] (0, 0) _ rfl (bp_1 BK_2 NB_2) Try.underlying24 rfl (by kernel_rfl)) rfl ?_
 exact ⟨_, fz_, by refine rq_ ?_; exact rf2_ HO_2 BK_1 BK_2, bl_2 HB GE_1 GE_2⟩

mutual
def gafferref02_Same.j0 : Nat → Bool → List (S71) → Bool → Int → List (S71) → Bool → Int → Option (Bool)
 | 0, _, _, _, _, _, _, _ => none
 | k + 1, x26, x110000, x110001, x110002, x111000, x111001, x111002 => if x26 = true then (some false) else (gafferref02_Same.l0 k (x110000.length : Int) 0 x110000 x110001 x110002 x111000 x111001 x111002)
def gafferref02_Same.l0 : Nat → Int → Int → List (S71) → Bool → Int → List (S71) → Bool → Int → Option (Bool)
 | 0, _, _, _, _, _, _, _, _ => none
 | k + 1, x29, x30, x110000, x110001, x110002, x111000, x111001, x111002 => if x30 < x29 then (if 0 ≤ x30 then (if x30 < (x110000.length : Int) then (if x30 < (x111000.length : Int) then (if (!((((rd_T71 x110000 x30).f0).toList) == (((rd_T71 x111000 x30).f0).toList)) || (!((((rd_T71 x110000 x30).f1).toList) == (((rd_T71 x111000 x30).f1).toList)) || (!(((rd_T71 x110000 x30).f2) == ((rd_T71 x111000 x30).f2))))) = true then (some false) else (gafferref02_Same.l0 k x29 (wrap64 (x30 + 1)) x110000 x110001 x110002 x111000 x111001 x111002)) else (none)) else (none)) else (none)) else (some true)
end
def gafferref02_Same.f (k : Nat) (l0_0 : List (S71)) (a0_1 : Bool) (a0_2 : Int) (l1_0 : List (S71)) (a1_1 : Bool) (a1_2 : Int) : Option (Bool) := if (a0_1 != a1_1) = true then (gafferref02_Same.j0 k true l0_0 a0_1 a0_2 l1_0 a1_1 a1_2) else (if a0_2 = a1_2 then (gafferref02_Same.j0 k ((l0_0.length : Int) != (l1_0.length : Int)) l0_0 a0_1 a0_2 l1_0 a1_1 a1_2) else (gafferref02_Same.j0 k true l0_0 a0_1 a0_2 l1_0 a1_1 a1_2))
theorem gafferref02_Same.mono_l : ∀ k, (∀ y0 y1 y2 y3 y4 y5 y6, LeO (gafferref02_Same.j0 k y0 y1 y2 y3 y4 y5 y6) (gafferref02_Same.j0 (k + 1) y0 y1 y2 y3 y4 y5 y6)) ∧ (∀ y0 y1 y2 y3 y4 y5 y6 y7, LeO (gafferref02_Same.l0 k y0 y1 y2 y3 y4 y5 y6 y7) (gafferref02_Same.l0 (k + 1) y0 y1 y2 y3 y4 y5 y6 y7))
 | 0 => ⟨fun _ _ _ _ _ _ _ r h => by simp [gafferref02_Same.j0] at h, fun _ _ _ _ _ _ _ _ r h => by simp [gafferref02_Same.l0] at h⟩
 | k + 1 => by
  obtain ⟨ih0, ih1⟩ := gafferref02_Same.mono_l k
  refine ⟨?_, ?_⟩
  ·intro y0 y1 y2 y3 y4 y5 y6
   unfold gafferref02_Same.j0
   repeat' with_reducible first | apply ih0 | apply ih1 | apply LeO.refl | apply LeO.none | apply LeO.ite | refine LeO.bind ?_ (fun _ => ?_)
  ·intro y0 y1 y2 y3 y4 y5 y6 y7
   unfold gafferref02_Same.l0
   repeat' with_reducible first | apply ih0 | apply ih1 | apply LeO.refl | apply LeO.none | apply LeO.ite | refine LeO.bind ?_ (fun _ => ?_)
theorem gafferref02_Same.mono : ∀ a0 a1 a2 a3 a4 a5 k, LeO (gafferref02_Same.f k a0 a1 a2 a3 a4 a5) (gafferref02_Same.f (k + 1) a0 a1 a2 a3 a4 a5) := by
 intro a0 a1 a2 a3 a4 a5 k
 obtain ⟨ih0, ih1⟩ := gafferref02_Same.mono_l k
 unfold gafferref02_Same.f
 repeat' with_reducible first | apply ih0 | apply ih1 | apply LeO.refl | apply LeO.none | apply LeO.ite | refine LeO.bind ?_ (fun _ => ?_)
theorem gafferref02_Same.calls (k : Nat) (A0_0 : Option Addr) (c0_0 : Nat) (l0_0 : List (S71)) (a0_1 : Bool) (a0_2 : Int) (A1_0 : Option Addr) (c1_0 : Nat) (l1_0 : List (S71)) (a1_1 : Bool) (a1_2 : Int) (r : Bool) (w : World) (hr0_0 : Kd.C k71 w A0_0 l0_0.length l0_0) (hc0_0 : l0_0.length ≤ c0_0) (hr1_0 : Kd.C k71 w A1_0 l1_0.length l1_0) (hc1_0 : l1_0.length ≤ c1_0) (h : gafferref02_Same.f k l0_0 a0_1 a0_2 l1_0 a1_1 a1_2 = some r) :
  Calls Try.prog 20 #[.agg #[.slice A0_0 l0_0.length c0_0, .bool a0_1, .int .i64 a0_2], .agg #[.slice A1_0 l1_0.length c1_0, .bool a1_1, .int .i64 a1_2]] w fun e w' => e = .returned (.bool r) ∧ Below w.heap.size w w' := by
 have hu_1 := Try.underlying24
 have hu_2 := Try.underlying71
 have HR_1 := a_ hr0_0
 have HC_1 := a_ hc0_0
 clear hr0_0 hc0_0
 have HR_2 := a_ hr1_0
 have HC_2 := a_ hc1_0
 clear hr1_0 hc1_0
 have HB := a_ (Below.refl w.heap.size w)
 have H := h
 unfold gafferref02_Same.f at H
 clear h
 have HC_3 := a_ H
 clear H
 go_enter Try.func20, Try.ntmps20
 go_upto_region 1 with (first | ((with_reducible refine gd_ 2 ?_); (try (refine gate_guard (by rfl) ?_; dsimp only)); refine bz_ 2 #[.slice A0_0 l0_0.length c0_0, .bool a0_1, .int .i64 a0_2] 24 ?_; intro gb_1 hg w_1 BK_1 hb; have GE_1 := a_ (bs_0 hg HB); replace HB := hB_ (bl_ HB) hb; clear hb hg) | ((with_reducible refine gd_ 3 ?_); (try (refine gate_guard (by rfl) ?_; dsimp only)); refine bz_ 3 #[.slice A1_0 l1_0.length c1_0, .bool a1_1, .int .i64 a1_2] 24 ?_; intro gb_2 hg w_2 BK_2 hb; have GE_2 := a_ (bs_1 hg HB GE_1); replace HB := hB_ (bl_1 HB GE_1) hb; have NB_1 := nB_ hg BK_1; have NB_2 := nC_ hg BK_1; replace BK_1 := bB_ BK_1 hb; clear hb hg))
 repeat (go_quiet (first | ((with_reducible refine gd_ 2 ?_); (try (refine gate_guard (by rfl) ?_; dsimp only)); refine bz_ 2 #[.slice A0_0 l0_0.length c0_0, .bool a0_1, .int .i64 a0_2] 24 ?_; intro gb_1 hg w_1 BK_1 hb; have GE_1 := a_ (bs_0 hg HB); replace HB := hB_ (bl_ HB) hb; clear hb hg) | ((with_reducible refine gd_ 3 ?_); (try (refine gate_guard (by rfl) ?_; dsimp only)); refine bz_ 3 #[.slice A1_0 l1_0.length c1_0, .bool a1_1, .int .i64 a1_2] 24 ?_; intro gb_2 hg w_2 BK_2 hb; have GE_2 := a_ (bs_1 hg HB GE_1); replace HB := hB_ (bl_1 HB GE_1) hb; have NB_1 := nB_ hg BK_1; have NB_2 := nC_ hg BK_1; replace BK_1 := bB_ BK_1 hb; clear hb hg)); go_upto_region 1 with (first | ((with_reducible refine gd_ 2 ?_); (try (refine gate_guard (by rfl) ?_; dsimp only)); refine bz_ 2 #[.slice A0_0 l0_0.length c0_0, .bool a0_1, .int .i64 a0_2] 24 ?_; intro gb_1 hg w_1 BK_1 hb; have GE_1 := a_ (bs_0 hg HB); replace HB := hB_ (bl_ HB) hb; clear hb hg) | ((with_reducible refine gd_ 3 ?_); (try (refine gate_guard (by rfl) ?_; dsimp only)); refine bz_ 3 #[.slice A1_0 l1_0.length c1_0, .bool a1_1, .int .i64 a1_2] 24 ?_; intro gb_2 hg w_2 BK_2 hb; have GE_2 := a_ (bs_1 hg HB GE_1); replace HB := hB_ (bl_1 HB GE_1) hb; have NB_1 := nB_ hg BK_1; have NB_2 := nC_ hg BK_1; replace BK_1 := bB_ BK_1 hb; clear hb hg)))
 (try simp only [Act.put, List.setIfInBounds_toArray, List.set_cons_zero, List.set_cons_succ])
 go_cut [26] (fun v26 wc => ∃ (kq : Nat) (x26_2 : Bool), v26 = .bool x26_2 ∧ Aside0 (gafferref02_Same.j0 kq x26_2 l0_0 a0_1 a0_2 l1_0 a1_1 a1_2 = some r) ∧ Aside0 (kq ≤ k) ∧ Aside0 (wc.heap[gb_1]? = some (.cells #[(.slice A0_0 l0_0.length c0_0), .bool a0_1, .int .i64 a0_2] 24 (0, 0))) ∧ Aside0 (wc.heap[gb_2]? = some (.cells #[(.slice A1_0 l1_0.length c1_0), .bool a1_1, .int .i64 a1_2] 24 (0, 0))) ∧ Aside0 (Below w.heap.size w wc))
 case first =>
  have H := HC_3.out
  clear HC_3
  by_cases c_1 : (a0_1 != a1_1) = true
  focus
   rw [if_pos c_1] at H
   have c_2 : (a0_1 != a1_1) = true := c_1
   (try (have c_3 : decide (a0_1 = a1_1) = false := by simpa using c_1))
   (try (have c_4 : (a0_1 == a1_1) = false := by simpa using c_1))
   (try (have c_5 : ¬ (a0_1 = a1_1) := by simpa using c_1))
   clear c_1
   (first | rw [c_2] | (simp only [i64_w, i32_w]; rw [c_2]) | skip)
   have H' := a_ H
   clear H
   have := NB_1.out
   have := NB_2.out
   obtain ⟨_, _, _, _, _, _⟩ := c3_ BK_1
   obtain ⟨_, _, _, _, _, _⟩ := c3_ BK_2
   have L0_ := trivial
  rotate_left
  focus
   rw [if_neg c_1] at H
   have c_2 : (a0_1 != a1_1) = false := by simpa using c_1
   (try (have c_3 : decide (a0_1 = a1_1) = true := by simpa using c_1))
   (try (have c_4 : (a0_1 == a1_1) = true := by simpa using c_1))
   clear c_1
   (first | rw [c_2] | (simp only [i64_w, i32_w]; rw [c_2]) | skip)
   by_cases c_5 : a0_2 = a1_2
   rotate_left
   focus
    rw [if_neg c_5] at H
    obtain ⟨c_6, c_7⟩ := bn_ c_5
    have H' := a_ H
    clear H
    have := NB_1.out
    have := NB_2.out
    obtain ⟨_, _, _, _, _, _⟩ := c3_ BK_1
    obtain ⟨_, _, _, _, _, _⟩ := c3_ BK_2
    have L0_ := trivial
   rotate_left
   rw [if_pos c_5] at H
   obtain ⟨c_6, c_7⟩ := be_ c_5
   clear c_5
   have H' := a_ H
   clear H
   have := NB_1.out
   have := NB_2.out
   obtain ⟨_, _, _, _, _, _⟩ := c3_ BK_1
   obtain ⟨_, _, _, _, _, _⟩ := c3_ BK_2
   have L1_ := trivial
  all_goals
   go_wp2
   repeat (go_quiet (fail); try go_wp2)
   go_meet
   first
   | (have _ := L0_
      case rel => exact ⟨_, (true), fz_, H', ⟨by first | omega | exact Nat.le_refl _⟩, ⟨bk_ BK_1⟩, ⟨bk_ BK_2⟩, ⟨bl_2 HB GE_1 GE_2⟩⟩)
   | (have _ := L1_
      case rel => exact ⟨_, (((l0_0.length : Int) != (l1_0.length : Int))), fz_, H', ⟨by first | omega | exact Nat.le_refl _⟩, ⟨bk_ BK_1⟩, ⟨bk_ BK_2⟩, ⟨bl_2 HB GE_1 GE_2⟩⟩)
 case rest =>
  clear HC_3
  obtain ⟨kq, x_1, rfl, HA, HJ_1, BK_1, BK_2, HB⟩ := hcut
  cases kq with
  | zero => exact absurd HA.out (by simp [gafferref02_Same.j0])
  | succ kj2 =>
   have H := HA.out
   clear HA
   simp only [gafferref02_Same.j0] at H
   by_cases c_2 : x_1 = true
   ·subst c_2
    rw [if_pos rfl] at H
    obtain rfl := Option.some.inj H
    go_wp2
    repeat (go_quiet (fail); try go_wp2)
    go_ret
    exact ⟨fz_, bl_2 HB GE_1 GE_2⟩
   replace c_2 := Bool.eq_false_iff.mpr c_2
   subst c_2
   rw [if_neg (show ¬ (false = true) by decide)] at H
   have H' := a_ H
   clear H
   have := NB_1.out
   have := NB_2.out
   obtain ⟨_, _, _, _, _, _⟩ := c3_ BK_1
   go_wp2
   repeat (go_quiet (fail); try go_wp2)
   go_loopg [30] kj2 (fun kq v30 w' => ∃ (x30_2 : Int), v30 = .int .i64 x30_2 ∧ Aside0 (gafferref02_Same.l0 kq (l0_0.length : Int) x30_2 l0_0 a0_1 a0_2 l1_0 a1_1 a1_2 = some r) ∧ Aside0 (kq ≤ kj2) ∧ Aside0 (w'.heap[gb_1]? = some (.cells #[(.slice A0_0 l0_0.length c0_0), .bool a0_1, .int .i64 a0_2] 24 (0, 0))) ∧ Aside0 (w'.heap[gb_2]? = some (.cells #[(.slice A1_0 l1_0.length c1_0), .bool a1_1, .int .i64 a1_2] 24 (0, 0))) ∧ Aside0 (Below w.heap.size w w'))
   case atStart => exact ⟨(0), fz_, H', ⟨Nat.le_refl _⟩, ⟨bk_ BK_1⟩, ⟨bk_ BK_2⟩, ⟨bl_2 HB GE_1 GE_2⟩⟩
   case round =>
    clear H'
    try clear c_2
    obtain ⟨x_2, rfl, HA, HK_1, BK_1, BK_2, HB⟩ := hrel
    cases gk with
    | zero => exact absurd HA.out (by simp [gafferref02_Same.l0])
    | succ k2 =>
     have H := HA.out
     clear HA
     simp only [gafferref02_Same.l0] at H
     by_cases c_3 : x_2 < (l0_0.length : Int)
     rotate_left
     ·rw [if_neg c_3] at H
      have c_4 : decide (x_2 < (l0_0.length : Int)) = false := decide_eq_false c_3
      clear c_3
      obtain rfl := Option.some.inj H
      go_wp2
      repeat (go_quiet (fail); try go_wp2)
      go_ret
      exact ⟨fz_, bl_2 HB GE_1 GE_2⟩
     rw [if_pos c_3] at H
     have c_4 : decide (x_2 < (l0_0.length : Int)) = true := decide_eq_true c_3
     clear c_3
     replace H := ip_ H
     obtain ⟨-, c_6, H⟩ := H
     replace H := ip_ H
     obtain ⟨-, c_8, H⟩ := H
     replace H := ip_ H
     obtain ⟨-, c_10, H⟩ := H
     by_cases c_11 : (!((((rd_T71 l0_0 x_2).f0).toList) == (((rd_T71 l1_0 x_2).f0).toList)) || (!((((rd_T71 l0_0 x_2).f1).toList) == (((rd_T71 l1_0 x_2).f1).toList)) || (!(((rd_T71 l0_0 x_2).f2) == ((rd_T71 l1_0 x_2).f2))))) = true
     ·rw [if_pos c_11] at H
      have c_12 : (!((((rd_T71 l0_0 x_2).f0).toList) == (((rd_T71 l1_0 x_2).f0).toList)) || (!((((rd_T71 l0_0 x_2).f1).toList) == (((rd_T71 l1_0 x_2).f1).toList)) || (!(((rd_T71 l0_0 x_2).f2) == ((rd_T71 l1_0 x_2).f2))))) = true := c_11
      clear c_11
      obtain rfl := Option.some.inj H
      have := NB_1.out
      have := NB_2.out
      obtain ⟨_, _, _, _, _, _⟩ := c3_ BK_1
      have p_1 : 0 ≤ (x_2 : Int) := od_
      have q_1 : x_2 < (l0_0.length : Int) := od_
      obtain ⟨ad_1, e_1, hx_1, hx_2, hx_3⟩ := at_T71 HR_1.out x_2 p_1 q_1
      cases e_1
      replace hx_1 := hc_ HB hx_1
      replace hx_2 := hc_ HB hx_2
      replace hx_3 := hc_ HB hx_3
      replace p_1 := eq_true p_1
      replace q_1 := eq_true q_1
      obtain ⟨_, _, _, _, _, _⟩ := c3_ BK_2
      have p_2 : 0 ≤ (x_2 : Int) := od_
      have q_2 : x_2 < (l1_0.length : Int) := od_
      obtain ⟨ad_2, e_2, hx_4, hx_5, hx_6⟩ := at_T71 HR_2.out x_2 p_2 q_2
      cases e_2
      replace hx_4 := hc_ HB hx_4
      replace hx_5 := hc_ HB hx_5
      replace hx_6 := hc_ HB hx_6
      replace p_2 := eq_true p_2
      replace q_2 := eq_true q_2
      go_wp2
      repeat (go_quiet (fail); try go_wp2)
      go_ret
      exact ⟨fz_, bl_2 HB GE_1 GE_2⟩
     rw [if_neg c_11] at H
     have c_12 : (!((((rd_T71 l0_0 x_2).f0).toList) == (((rd_T71 l1_0 x_2).f0).toList)) || (!((((rd_T71 l0_0 x_2).f1).toList) == (((rd_T71 l1_0 x_2).f1).toList)) || (!(((rd_T71 l0_0 x_2).f2) == ((rd_T71 l1_0 x_2).f2))))) = false := by simpa using c_11
     clear c_11
     have H' := a_ H
     clear H
     have := NB_1.out
     have := NB_2.out
     obtain ⟨_, _, _, _, _, _⟩ := c3_ BK_1
     have p_1 : 0 ≤ (x_2 : Int) := od_
     have q_1 : x_2 < (l0_0.length : Int) := od_
     obtain ⟨ad_1, e_1, hx_1, hx_2, hx_3⟩ := at_T71 HR_1.out x_2 p_1 q_1
     cases e_1
     replace hx_1 := hc_ HB hx_1
     replace hx_2 := hc_ HB hx_2
     replace hx_3 := hc_ HB hx_3
     replace p_1 := eq_true p_1
     replace q_1 := eq_true q_1
     obtain ⟨_, _, _, _, _, _⟩ := c3_ BK_2
     have p_2 : 0 ≤ (x_2 : Int) := od_
     have q_2 : x_2 < (l1_0.length : Int) := od_
     obtain ⟨ad_2, e_2, hx_4, hx_5, hx_6⟩ := at_T71 HR_2.out x_2 p_2 q_2
     cases e_2
     replace hx_4 := hc_ HB hx_4
     replace hx_5 := hc_ HB hx_5
     replace hx_6 := hc_ HB hx_6
     replace p_2 := eq_true p_2
     replace q_2 := eq_true q_2
     go_wp2
     repeat (go_quiet (fail); try go_wp2)
     go_roundg k2
     case measure => have := HJ_1.out; have := HK_1.out; omega
     case rel => exact ⟨(wrap64 (x_2 + 1)), fz_, H', ⟨by have := HJ_1.out; have := HK_1.out; omega⟩, ⟨bk_ BK_1⟩, ⟨bk_ BK_2⟩, ⟨bl_2 HB GE_1 GE_2⟩⟩

def wal_Members.l0 : Nat → Int → List Int → Int → Int → Option (Bool)
 | 0, _, _, _, _ => none
 | k + 1, x3, x6, x7, x8 => if x8 < x7 then (if 0 ≤ x8 then (if x8 < (x6.length : Int) then (if (rd x6 x8) ≤ x3 then (some false) else (if (rd x6 x8) > 7 then (some false) else (wal_Members.l0 k (rd x6 x8) x6 x7 (wrap64 (x8 + 1))))) else (none)) else (none)) else (some (decide (x3 > 0)))
def wal_Members.f (k : Nat) (l0 : List Int) : Option (Bool) := wal_Members.l0 k 0 l0 (l0.length : Int) 0
theorem wal_Members.mono_l : ∀ k, (∀ y0 y1 y2 y3, LeO (wal_Members.l0 k y0 y1 y2 y3) (wal_Members.l0 (k + 1) y0 y1 y2 y3))
 | 0 => fun _ _ _ _ r h => by simp [wal_Members.l0] at h
 | k + 1 => by
  have ih0 := wal_Members.mono_l k
  ·intro y0 y1 y2 y3
   unfold wal_Members.l0
   repeat' with_reducible first | apply ih0 | apply LeO.refl | apply LeO.none | apply LeO.ite | refine LeO.bind ?_ (fun _ => ?_)
theorem wal_Members.mono : ∀ a0 k, LeO (wal_Members.f k a0) (wal_Members.f (k + 1) a0) := by
 intro a0 k
 have ih0 := wal_Members.mono_l k
 unfold wal_Members.f
 repeat' with_reducible first | apply ih0 | apply LeO.refl | apply LeO.none | apply LeO.ite | refine LeO.bind ?_ (fun _ => ?_)
theorem wal_Members.calls (k : Nat) (A0 : Option Addr) (c0 : Nat) (l0 : List Int) (r : Bool) (w : World) (hr0 : Kd.C (Kd.int .i64) w A0 l0.length l0) (hc0 : l0.length ≤ c0) (h : wal_Members.f k l0 = some r) :
  Calls Try.prog 56 #[.slice A0 l0.length c0] w fun e w' => e = .returned (.bool r) ∧ Drawn0 w w' := by
 have HR_1 := a_ hr0
 have HC_1 := a_ hc0
 clear hr0 hc0
 have H := h
 unfold wal_Members.f at H
 clear h
 have H' := a_ H
 clear H
 go_enter Try.func56, Try.ntmps56
 go_wp2
 go_loopg [3, 8] k (fun kq v3 v8 w' => ∃ (x3_1 : Int) (x8_1 : Int), v3 = .int .i64 x3_1 ∧ v8 = .int .i64 x8_1 ∧ Aside0 (wal_Members.l0 kq x3_1 l0 (l0.length : Int) x8_1 = some r) ∧ Aside0 (kq ≤ k) ∧ Drawn0 w w')
 case atStart => exact ⟨(0), (0), fz_, fz_, H', ⟨Nat.le_refl _⟩, dr_⟩
 case round =>
  clear H'
  obtain ⟨x_1, x_2, rfl, rfl, HA, HK_1, ⟨m_1, rfl⟩⟩ := hrel
  cases gk with
  | zero => exact absurd HA.out (by simp [wal_Members.l0])
  | succ k1 =>
   have H := HA.out
   clear HA
   simp only [wal_Members.l0] at H
   by_cases c_1 : x_2 < (l0.length : Int)
   rotate_left
   ·rw [if_neg c_1] at H
    have c_2 : decide (x_2 < (l0.length : Int)) = false := decide_eq_false c_1
    clear c_1
    obtain rfl := Option.some.inj H
    go_wp2
    go_ret
    exact ⟨fz_, dr_⟩
   rw [if_pos c_1] at H
   have c_2 : decide (x_2 < (l0.length : Int)) = true := decide_eq_true c_1
   clear c_1
   replace H := ip_ H
   obtain ⟨-, c_4, H⟩ := H
   replace H := ip_ H
   obtain ⟨-, c_6, H⟩ := H
   by_cases c_7 : (rd l0 x_2) ≤ x_1
   ·rw [if_pos c_7] at H
    have c_8 : decide ((rd l0 x_2) ≤ x_1) = true := decide_eq_true c_7
    clear c_7
    obtain rfl := Option.some.inj H
    have p_1 : 0 ≤ (x_2 : Int) := od_
    have q_1 : x_2 < (l0.length : Int) := od_
    obtain ⟨ad_1, e_1, hx_1⟩ := Kd.at_int HR_1.out x_2 p_1 q_1
    cases e_1
    replace p_1 := eq_true p_1
    replace q_1 := eq_true q_1
    go_wp2
    go_ret
    exact ⟨fz_, dr_⟩
   rw [if_neg c_7] at H
   have c_8 : decide ((rd l0 x_2) ≤ x_1) = false := decide_eq_false c_7
   clear c_7
   by_cases c_9 : (rd l0 x_2) > 7
   ·rw [if_pos c_9] at H
    have c_10 : decide (7 < (rd l0 x_2)) = true := decide_eq_true c_9
    clear c_9
    obtain rfl := Option.some.inj H
    have p_1 : 0 ≤ (x_2 : Int) := od_
    have q_1 : x_2 < (l0.length : Int) := od_
    obtain ⟨ad_1, e_1, hx_1⟩ := Kd.at_int HR_1.out x_2 p_1 q_1
    cases e_1
    replace p_1 := eq_true p_1
    replace q_1 := eq_true q_1
    go_wp2
    go_ret
    exact ⟨fz_, dr_⟩
   rw [if_neg c_9] at H
   have c_10 : decide (7 < (rd l0 x_2)) = false := decide_eq_false c_9
   clear c_9
   have H' := a_ H
   clear H
   have p_1 : 0 ≤ (x_2 : Int) := od_
   have q_1 : x_2 < (l0.length : Int) := od_
   obtain ⟨ad_1, e_1, hx_1⟩ := Kd.at_int HR_1.out x_2 p_1 q_1
   cases e_1
   replace p_1 := eq_true p_1
   replace q_1 := eq_true q_1
   go_wp2
   go_roundg k1
   case measure => have := HK_1.out; omega
   case rel => exact ⟨(rd l0 x_2), (wrap64 (x_2 + 1)), fz_, fz_, H', ⟨by have := HK_1.out; omega⟩, dr_⟩

def snap_Check.f (k : Nat) (a0_0 : Int) (a0_1 : Int) (l0_2 : List Int) (a0_3 : ByteArray) : Option (Int) := if a0_0 = 0 then (if a0_1 = 0 then (if (l0_2.length : Int) = 0 then (if (a0_3.toList = ([] : List UInt8)) then (some 0) else ((wal_Members.f k l0_2).bind fun t115 => (if t115 = true then (if (a0_3.size : Int) > 64512 then (some 4) else (some 0)) else (some 4)))) else ((wal_Members.f k l0_2).bind fun t116 => (if t116 = true then (if (a0_3.size : Int) > 64512 then (some 4) else (some 0)) else (some 4)))) else ((wal_Members.f k l0_2).bind fun t117 => (if t117 = true then (if (a0_3.size : Int) > 64512 then (some 4) else (some 0)) else (some 4)))) else ((wal_Members.f k l0_2).bind fun t118 => (if t118 = true then (if (a0_3.size : Int) > 64512 then (some 4) else (some 0)) else (some 4)))
theorem snap_Check.mono : ∀ a0 a1 a2 a3 k, LeO (snap_Check.f k a0 a1 a2 a3) (snap_Check.f (k + 1) a0 a1 a2 a3) := by
 intro a0 a1 a2 a3 k
 unfold snap_Check.f
 repeat' with_reducible first | apply wal_Members.mono | apply LeO.refl | apply LeO.none | apply LeO.ite | refine LeO.bind ?_ (fun _ => ?_)
theorem snap_Check.calls (k : Nat) (a0_0 : Int) (a0_1 : Int) (A0_2 : Option Addr) (c0_2 : Nat) (l0_2 : List Int) (a0_3 : ByteArray) (r : Int) (w : World) (hr0_2 : Kd.C (Kd.int .i64) w A0_2 l0_2.length l0_2) (hc0_2 : l0_2.length ≤ c0_2) (h : snap_Check.f k a0_0 a0_1 l0_2 a0_3 = some r) :
  Calls Try.prog 31 #[.agg #[.int .u64 a0_0, .int .u64 a0_1, .slice A0_2 l0_2.length c0_2, .string a0_3]] w fun e w' => e = .returned (.int .i64 r) ∧ Below w.heap.size w w' := by
 have hu_1 := Try.underlying48
 have HR_1 := a_ hr0_2
 have HC_1 := a_ hc0_2
 clear hr0_2 hc0_2
 have HB := a_ (Below.refl w.heap.size w)
 have H := h
 unfold snap_Check.f at H
 clear h
 by_cases c_1 : a0_0 = 0
 rotate_left
 focus
  rw [if_neg c_1] at H
  obtain ⟨c_2, c_3⟩ := bn_ c_1
  obtain ⟨t_1, A_2, H⟩ := ob_ H
  try dsimp only at H
  by_cases c_4 : t_1 = true
  rotate_left
  focus
   replace c_4 := Bool.eq_false_iff.mpr c_4
   subst c_4
   rw [if_neg (show ¬ (false = true) by decide)] at H
   obtain rfl := Option.some.inj H
  rotate_left
  focus
   subst c_4
   rw [if_pos rfl] at H
   by_cases c_5 : (a0_3.size : Int) > 64512
   focus
    rw [if_pos c_5] at H
    have c_6 : decide (64512 < (a0_3.size : Int)) = true := decide_eq_true c_5
    have c_7 : decide (64512 < a0_3.size) = true := decide_eq_true (by omega)
    clear c_5
    obtain rfl := Option.some.inj H
   rotate_left
   rw [if_neg c_5] at H
   have c_6 : decide (64512 < (a0_3.size : Int)) = false := decide_eq_false c_5
   have c_7 : decide (64512 < a0_3.size) = false := decide_eq_false (by omega)
   clear c_5
   obtain rfl := Option.some.inj H
 rotate_left 3
 focus
  rw [if_pos c_1] at H
  obtain ⟨c_2, c_3⟩ := be_ c_1
  clear c_1
  by_cases c_4 : a0_1 = 0
  rotate_left
  focus
   rw [if_neg c_4] at H
   obtain ⟨c_5, c_6⟩ := bn_ c_4
   obtain ⟨t_1, A_2, H⟩ := ob_ H
   try dsimp only at H
   by_cases c_7 : t_1 = true
   rotate_left
   focus
    replace c_7 := Bool.eq_false_iff.mpr c_7
    subst c_7
    rw [if_neg (show ¬ (false = true) by decide)] at H
    obtain rfl := Option.some.inj H
   rotate_left
   focus
    subst c_7
    rw [if_pos rfl] at H
    by_cases c_8 : (a0_3.size : Int) > 64512
    focus
     rw [if_pos c_8] at H
     have c_9 : decide (64512 < (a0_3.size : Int)) = true := decide_eq_true c_8
     have c_10 : decide (64512 < a0_3.size) = true := decide_eq_true (by omega)
     clear c_8
     obtain rfl := Option.some.inj H
    rotate_left
    rw [if_neg c_8] at H
    have c_9 : decide (64512 < (a0_3.size : Int)) = false := decide_eq_false c_8
    have c_10 : decide (64512 < a0_3.size) = false := decide_eq_false (by omega)
    clear c_8
    obtain rfl := Option.some.inj H
  rotate_left 3
  focus
   rw [if_pos c_4] at H
   obtain ⟨c_5, c_6⟩ := be_ c_4
   clear c_4
   by_cases c_7 : (l0_2.length : Int) = 0
   rotate_left
   focus
    rw [if_neg c_7] at H
    obtain ⟨c_8, c_9⟩ := bn_ c_7
    have c_10 : ¬ (l0_2 = []) := fun h_ => c_7 (by rw [h_]; rfl)
    obtain ⟨t_1, A_2, H⟩ := ob_ H
    try dsimp only at H
    by_cases c_11 : t_1 = true
    rotate_left
    focus
     replace c_11 := Bool.eq_false_iff.mpr c_11
     subst c_11
     rw [if_neg (show ¬ (false = true) by decide)] at H
     obtain rfl := Option.some.inj H
    rotate_left
    focus
     subst c_11
     rw [if_pos rfl] at H
     by_cases c_12 : (a0_3.size : Int) > 64512
     focus
      rw [if_pos c_12] at H
      have c_13 : decide (64512 < (a0_3.size : Int)) = true := decide_eq_true c_12
      have c_14 : decide (64512 < a0_3.size) = true := decide_eq_true (by omega)
      clear c_12
      obtain rfl := Option.some.inj H
     rotate_left
     rw [if_neg c_12] at H
     have c_13 : decide (64512 < (a0_3.size : Int)) = false := decide_eq_false c_12
     have c_14 : decide (64512 < a0_3.size) = false := decide_eq_false (by omega)
     clear c_12
     obtain rfl := Option.some.inj H
   rotate_left 3
   focus
    rw [if_pos c_7] at H
    obtain ⟨c_8, c_9⟩ := be_ c_7
    clear c_7
    by_cases c_10 : (a0_3.toList = ([] : List UInt8))
    focus
     rw [if_pos c_10] at H
     obtain ⟨c_11, c_12⟩ := be_ c_10
     clear c_10
     obtain rfl := Option.some.inj H
    rotate_left
    focus
     rw [if_neg c_10] at H
     obtain ⟨c_11, c_12⟩ := bn_ c_10
     obtain ⟨t_1, A_2, H⟩ := ob_ H
     try dsimp only at H
     by_cases c_13 : t_1 = true
     rotate_left
     focus
      replace c_13 := Bool.eq_false_iff.mpr c_13
      subst c_13
      rw [if_neg (show ¬ (false = true) by decide)] at H
      obtain rfl := Option.some.inj H
     rotate_left
     focus
      subst c_13
      rw [if_pos rfl] at H
      by_cases c_14 : (a0_3.size : Int) > 64512
      focus
       rw [if_pos c_14] at H
       have c_15 : decide (64512 < (a0_3.size : Int)) = true := decide_eq_true c_14
       have c_16 : decide (64512 < a0_3.size) = true := decide_eq_true (by omega)
       clear c_14
       obtain rfl := Option.some.inj H
      rotate_left
      rw [if_neg c_14] at H
      have c_15 : decide (64512 < (a0_3.size : Int)) = false := decide_eq_false c_14
      have c_16 : decide (64512 < a0_3.size) = false := decide_eq_false (by omega)
      clear c_14
      obtain rfl := Option.some.inj H
 all_goals
  go_enter Try.func31, Try.ntmps31
  go_wp2_with (first | ((with_reducible refine gd_ 1 ?_); (try (refine gate_guard (by rfl) ?_; dsimp only)); refine bz_ 1 #[.int .u64 a0_0, .int .u64 a0_1, .slice A0_2 l0_2.length c0_2, .string a0_3] 48 ?_; intro gb_1 hg w_1 BK_1 hb; have GE_1 := a_ (bs_0 hg HB); replace HB := hB_ (bl_ HB) hb; clear hb hg; obtain ⟨_, _, _, _, _, _, _, _⟩ := c4_ BK_1) | (go_at_call 56; (with_reducible refine (wal_Members.calls _ _ _ _ _ _ ?side1 ?side2 A_2.out).mono ?_); (case side1 => exact cl_ (Kd.C_below HR_1.out HB.out)); (case side2 => exact HC_1.out); rintro e w' ⟨rfl, ⟨nd, rfl⟩⟩))
  go_ret
  exact ⟨fz_, bl_1 HB GE_1⟩
def bits_Len64.j0 : Nat → Int → Int → Option (Int)
 | 0, _, _ => none
 | k + 1, x0, x2 => if x0 ≥ 65536 then (if (x0 / 65536) ≥ 256 then (if 0 ≤ (((x0 / 65536) / 256) % 256) then (if (((x0 / 65536) / 256) % 256) < 256 then (some (wrap64 ((wrap64 ((wrap64 (x2 + 16)) + 8)) + (wrap64 (bt (⟨#[0, 1, 2, 2, 3, 3, 3, 3, 4, 4, 4, 4, 4, 4, 4, 4, 5, 5, 5, 5, 5, 5, 5, 5, 5, 5, 5, 5, 5, 5, 5, 5, 6, 6, 6, 6, 6, 6, 6, 6, 6, 6, 6, 6, 6, 6, 6, 6, 6, 6, 6, 6, 6, 6, 6, 6, 6, 6, 6, 6, 6, 6, 6, 6, 7, 7, 7, 7, 7, 7, 7, 7, 7, 7, 7, 7, 7, 7, 7, 7, 7, 7, 7, 7, 7, 7, 7, 7, 7, 7, 7, 7, 7, 7, 7, 7, 7, 7, 7, 7, 7, 7, 7, 7, 7, 7, 7, 7, 7, 7, 7, 7, 7, 7, 7, 7, 7, 7, 7, 7, 7, 7, 7, 7, 7, 7, 7, 7, 8, 8, 8, 8, 8, 8, 8, 8, 8, 8, 8, 8, 8, 8, 8, 8, 8, 8, 8, 8, 8, 8, 8, 8, 8, 8, 8, 8, 8, 8, 8, 8, 8, 8, 8, 8, 8, 8, 8, 8, 8, 8, 8, 8, 8, 8, 8, 8, 8, 8, 8, 8, 8, 8, 8, 8, 8, 8, 8, 8, 8, 8, 8, 8, 8, 8, 8, 8, 8, 8, 8, 8, 8, 8, 8, 8, 8, 8, 8, 8, 8, 8, 8, 8, 8, 8, 8, 8, 8, 8, 8, 8, 8, 8, 8, 8, 8, 8, 8, 8, 8, 8, 8, 8, 8, 8, 8, 8, 8, 8, 8, 8, 8, 8, 8, 8, 8, 8, 8, 8, 8, 8, 8, 8, 8, 8, 8, 8]⟩ : ByteArray) (((x0 / 65536) / 256) % 256)))))) else (none)) else (none)) else (if 0 ≤ ((x0 / 65536) % 256) then (if ((x0 / 65536) % 256) < 256 then (some (wrap64 ((wrap64 (x2 + 16)) + (wrap64 (bt (⟨#[0, 1, 2, 2, 3, 3, 3, 3, 4, 4, 4, 4, 4, 4, 4, 4, 5, 5, 5, 5, 5, 5, 5, 5, 5, 5, 5, 5, 5, 5, 5, 5, 6, 6, 6, 6, 6, 6, 6, 6, 6, 6, 6, 6, 6, 6, 6, 6, 6, 6, 6, 6, 6, 6, 6, 6, 6, 6, 6, 6, 6, 6, 6, 6, 7, 7, 7, 7, 7, 7, 7, 7, 7, 7, 7, 7, 7, 7, 7, 7, 7, 7, 7, 7, 7, 7, 7, 7, 7, 7, 7, 7, 7, 7, 7, 7, 7, 7, 7, 7, 7, 7, 7, 7, 7, 7, 7, 7, 7, 7, 7, 7, 7, 7, 7, 7, 7, 7, 7, 7, 7, 7, 7, 7, 7, 7, 7, 7, 8, 8, 8, 8, 8, 8, 8, 8, 8, 8, 8, 8, 8, 8, 8, 8, 8, 8, 8, 8, 8, 8, 8, 8, 8, 8, 8, 8, 8, 8, 8, 8, 8, 8, 8, 8, 8, 8, 8, 8, 8, 8, 8, 8, 8, 8, 8, 8, 8, 8, 8, 8, 8, 8, 8, 8, 8, 8, 8, 8, 8, 8, 8, 8, 8, 8, 8, 8, 8, 8, 8, 8, 8, 8, 8, 8, 8, 8, 8, 8, 8, 8, 8, 8, 8, 8, 8, 8, 8, 8, 8, 8, 8, 8, 8, 8, 8, 8, 8, 8, 8, 8, 8, 8, 8, 8, 8, 8, 8, 8, 8, 8, 8, 8, 8, 8, 8, 8, 8, 8, 8, 8, 8, 8, 8, 8, 8, 8]⟩ : ByteArray) ((x0 / 65536) % 256)))))) else (none)) else (none))) else (if x0 ≥ 256 then (if 0 ≤ ((x0 / 256) % 256) then (if ((x0 / 256) % 256) < 256 then (some (wrap64 ((wrap64 (x2 + 8)) + (wrap64 (bt (⟨#[0, 1, 2, 2, 3, 3, 3, 3, 4, 4, 4, 4, 4, 4, 4, 4, 5, 5, 5, 5, 5, 5, 5, 5, 5, 5, 5, 5, 5, 5, 5, 5, 6, 6, 6, 6, 6, 6, 6, 6, 6, 6, 6, 6, 6, 6, 6, 6, 6, 6, 6, 6, 6, 6, 6, 6, 6, 6, 6, 6, 6, 6, 6, 6, 7, 7, 7, 7, 7, 7, 7, 7, 7, 7, 7, 7, 7, 7, 7, 7, 7, 7, 7, 7, 7, 7, 7, 7, 7, 7, 7, 7, 7, 7, 7, 7, 7, 7, 7, 7, 7, 7, 7, 7, 7, 7, 7, 7, 7, 7, 7, 7, 7, 7, 7, 7, 7, 7, 7, 7, 7, 7, 7, 7, 7, 7, 7, 7, 8, 8, 8, 8, 8, 8, 8, 8, 8, 8, 8, 8, 8, 8, 8, 8, 8, 8, 8, 8, 8, 8, 8, 8, 8, 8, 8, 8, 8, 8, 8, 8, 8, 8, 8, 8, 8, 8, 8, 8, 8, 8, 8, 8, 8, 8, 8, 8, 8, 8, 8, 8, 8, 8, 8, 8, 8, 8, 8, 8, 8, 8, 8, 8, 8, 8, 8, 8, 8, 8, 8, 8, 8, 8, 8, 8, 8, 8, 8, 8, 8, 8, 8, 8, 8, 8, 8, 8, 8, 8, 8, 8, 8, 8, 8, 8, 8, 8, 8, 8, 8, 8, 8, 8, 8, 8, 8, 8, 8, 8, 8, 8, 8, 8, 8, 8, 8, 8, 8, 8, 8, 8, 8, 8, 8, 8, 8, 8]⟩ : ByteArray) ((x0 / 256) % 256)))))) else (none)) else (none)) else (if 0 ≤ ((x0) % 256) then (if ((x0) % 256) < 256 then (some (wrap64 (x2 + (wrap64 (bt (⟨#[0, 1, 2, 2, 3, 3, 3, 3, 4, 4, 4, 4, 4, 4, 4, 4, 5, 5, 5, 5, 5, 5, 5, 5, 5, 5, 5, 5, 5, 5, 5, 5, 6, 6, 6, 6, 6, 6, 6, 6, 6, 6, 6, 6, 6, 6, 6, 6, 6, 6, 6, 6, 6, 6, 6, 6, 6, 6, 6, 6, 6, 6, 6, 6, 7, 7, 7, 7, 7, 7, 7, 7, 7, 7, 7, 7, 7, 7, 7, 7, 7, 7, 7, 7, 7, 7, 7, 7, 7, 7, 7, 7, 7, 7, 7, 7, 7, 7, 7, 7, 7, 7, 7, 7, 7, 7, 7, 7, 7, 7, 7, 7, 7, 7, 7, 7, 7, 7, 7, 7, 7, 7, 7, 7, 7, 7, 7, 7, 8, 8, 8, 8, 8, 8, 8, 8, 8, 8, 8, 8, 8, 8, 8, 8, 8, 8, 8, 8, 8, 8, 8, 8, 8, 8, 8, 8, 8, 8, 8, 8, 8, 8, 8, 8, 8, 8, 8, 8, 8, 8, 8, 8, 8, 8, 8, 8, 8, 8, 8, 8, 8, 8, 8, 8, 8, 8, 8, 8, 8, 8, 8, 8, 8, 8, 8, 8, 8, 8, 8, 8, 8, 8, 8, 8, 8, 8, 8, 8, 8, 8, 8, 8, 8, 8, 8, 8, 8, 8, 8, 8, 8, 8, 8, 8, 8, 8, 8, 8, 8, 8, 8, 8, 8, 8, 8, 8, 8, 8, 8, 8, 8, 8, 8, 8, 8, 8, 8, 8, 8, 8, 8, 8, 8, 8, 8, 8]⟩ : ByteArray) ((x0) % 256)))))) else (none)) else (none)))
def bits_Len64.f (k : Nat) (a0 : Int) : Option (Int) := if a0 ≥ 4294967296 then (bits_Len64.j0 k (a0 / 4294967296) 32) else (bits_Len64.j0 k a0 0)
theorem bits_Len64.mono_l : ∀ k, (∀ y0 y1, LeO (bits_Len64.j0 k y0 y1) (bits_Len64.j0 (k + 1) y0 y1))
 | 0 => fun _ _ r h => by simp [bits_Len64.j0] at h
 | k + 1 => by
  have ih0 := bits_Len64.mono_l k
  ·intro y0 y1
   unfold bits_Len64.j0
   repeat' with_reducible first | apply ih0 | apply LeO.refl | apply LeO.none | apply LeO.ite | refine LeO.bind ?_ (fun _ => ?_)
theorem bits_Len64.mono : ∀ a0 k, LeO (bits_Len64.f k a0) (bits_Len64.f (k + 1) a0) := by
 intro a0 k
 have ih0 := bits_Len64.mono_l k
 unfold bits_Len64.f
 repeat' with_reducible first | apply ih0 | apply LeO.refl | apply LeO.none | apply LeO.ite | refine LeO.bind ?_ (fun _ => ?_)
theorem bits_Len64.calls (k : Nat) (a0 : Int) (r : Int) (w : World) (h : bits_Len64.f k a0 = some r) :
  Calls Try.prog 94 #[.int .u64 a0] w fun e w' => e = .returned (.int .i64 r) ∧ Drawn0 w w' := by
 have H := h
 unfold bits_Len64.f at H
 clear h
 have HC2 := a_ H
 clear H
 go_enter Try.func94, Try.ntmps94
 go_upto_if 4 with (fail)
 go_cut [0, 2] (fun v0 v2 wc => ∃ (kq : Nat) (x0_1 : Int) (x2_1 : Int), v0 = .int .u64 x0_1 ∧ v2 = .int .i64 x2_1 ∧ Aside0 (bits_Len64.j0 kq x0_1 x2_1 = some r) ∧ Aside0 (kq ≤ k) ∧ Drawn0 w wc)
 case first =>
  have H := HC2.out
  clear HC2
  by_cases c3 : a0 ≥ 4294967296
  rotate_left
  ·rw [if_neg c3] at H
   have c3b0 : decide (4294967296 ≤ a0) = false := decide_eq_false c3
   clear c3
   (first | rw [c3b0] | (simp only [i64_w, i32_w]; rw [c3b0]) | skip)
   have H' := a_ H
   clear H
   go_wp2
   go_meet
   case rel => exact ⟨_, (a0), (0), fz_, fz_, H', ⟨by first | omega | exact Nat.le_refl _⟩, dr_⟩
  rw [if_pos c3] at H
  have c3b0 : decide (4294967296 ≤ a0) = true := decide_eq_true c3
  clear c3
  (first | rw [c3b0] | (simp only [i64_w, i32_w]; rw [c3b0]) | skip)
  have H' := a_ H
  clear H
  go_wp2
  go_meet
  case rel => exact ⟨_, (a0 / 4294967296), (32), fz_, fz_, H', ⟨by first | omega | exact Nat.le_refl _⟩, dr_⟩
 case rest =>
  clear HC2
  obtain ⟨kq, x0_1, x2_1, rfl, rfl, HA, HJ1, ⟨mc1, rfl⟩⟩ := hcut
  cases kq with
  | zero => exact absurd HA.out (by simp [bits_Len64.j0])
  | succ kj1 =>
   have H := HA.out
   clear HA
   simp only [bits_Len64.j0] at H
   by_cases c4 : x0_1 ≥ 65536
   rotate_left
   ·rw [if_neg c4] at H
    have c4b0 : decide (65536 ≤ x0_1) = false := decide_eq_false c4
    clear c4
    by_cases c14 : x0_1 ≥ 256
    rotate_left
    ·rw [if_neg c14] at H
     have c14b0 : decide (256 ≤ x0_1) = false := decide_eq_false c14
     clear c14
     obtain ⟨ji19, hji19⟩ : ∃ j_ : Int, ((x0_1) % 256) = j_ := ⟨_, rfl⟩
     replace H : (if 0 ≤ (ji19) then (if (ji19) < 256 then (some (wrap64 (x2_1 + (wrap64 (bt (⟨#[0, 1, 2, 2, 3, 3, 3, 3, 4, 4, 4, 4, 4, 4, 4, 4, 5, 5, 5, 5, 5, 5, 5, 5, 5, 5, 5, 5, 5, 5, 5, 5, 6, 6, 6, 6, 6, 6, 6, 6, 6, 6, 6, 6, 6, 6, 6, 6, 6, 6, 6, 6, 6, 6, 6, 6, 6, 6, 6, 6, 6, 6, 6, 6, 7, 7, 7, 7, 7, 7, 7, 7, 7, 7, 7, 7, 7, 7, 7, 7, 7, 7, 7, 7, 7, 7, 7, 7, 7, 7, 7, 7, 7, 7, 7, 7, 7, 7, 7, 7, 7, 7, 7, 7, 7, 7, 7, 7, 7, 7, 7, 7, 7, 7, 7, 7, 7, 7, 7, 7, 7, 7, 7, 7, 7, 7, 7, 7, 8, 8, 8, 8, 8, 8, 8, 8, 8, 8, 8, 8, 8, 8, 8, 8, 8, 8, 8, 8, 8, 8, 8, 8, 8, 8, 8, 8, 8, 8, 8, 8, 8, 8, 8, 8, 8, 8, 8, 8, 8, 8, 8, 8, 8, 8, 8, 8, 8, 8, 8, 8, 8, 8, 8, 8, 8, 8, 8, 8, 8, 8, 8, 8, 8, 8, 8, 8, 8, 8, 8, 8, 8, 8, 8, 8, 8, 8, 8, 8, 8, 8, 8, 8, 8, 8, 8, 8, 8, 8, 8, 8, 8, 8, 8, 8, 8, 8, 8, 8, 8, 8, 8, 8, 8, 8, 8, 8, 8, 8, 8, 8, 8, 8, 8, 8, 8, 8, 8, 8, 8, 8, 8, 8, 8, 8, 8, 8]⟩ : ByteArray) (ji19)))))) else (none)) else (none)) = some r := by first | (rw [hji19] at H; exact H) | (simp only [hji19] at H ⊢; exact H)
     by_cases c20 : 0 ≤ (ji19)
     rotate_left
     ·rw [if_neg c20] at H
      exact absurd H (by simp)


     rw [if_pos c20] at H
     have c20b0 : decide (0 ≤ (ji19)) = true := decide_eq_true c20
     clear c20
     replace H := ip_ H
     obtain ⟨-, c21b0, H⟩ := H
     obtain rfl := Option.some.inj H
     have p22 : 0 ≤ ((ji19) : Int) := od_
     have q22 : (ji19) < (256 : Int) := od_
     have hx22 := bt_at (⟨#[0, 1, 2, 2, 3, 3, 3, 3, 4, 4, 4, 4, 4, 4, 4, 4, 5, 5, 5, 5, 5, 5, 5, 5, 5, 5, 5, 5, 5, 5, 5, 5, 6, 6, 6, 6, 6, 6, 6, 6, 6, 6, 6, 6, 6, 6, 6, 6, 6, 6, 6, 6, 6, 6, 6, 6, 6, 6, 6, 6, 6, 6, 6, 6, 7, 7, 7, 7, 7, 7, 7, 7, 7, 7, 7, 7, 7, 7, 7, 7, 7, 7, 7, 7, 7, 7, 7, 7, 7, 7, 7, 7, 7, 7, 7, 7, 7, 7, 7, 7, 7, 7, 7, 7, 7, 7, 7, 7, 7, 7, 7, 7, 7, 7, 7, 7, 7, 7, 7, 7, 7, 7, 7, 7, 7, 7, 7, 7, 8, 8, 8, 8, 8, 8, 8, 8, 8, 8, 8, 8, 8, 8, 8, 8, 8, 8, 8, 8, 8, 8, 8, 8, 8, 8, 8, 8, 8, 8, 8, 8, 8, 8, 8, 8, 8, 8, 8, 8, 8, 8, 8, 8, 8, 8, 8, 8, 8, 8, 8, 8, 8, 8, 8, 8, 8, 8, 8, 8, 8, 8, 8, 8, 8, 8, 8, 8, 8, 8, 8, 8, 8, 8, 8, 8, 8, 8, 8, 8, 8, 8, 8, 8, 8, 8, 8, 8, 8, 8, 8, 8, 8, 8, 8, 8, 8, 8, 8, 8, 8, 8, 8, 8, 8, 8, 8, 8, 8, 8, 8, 8, 8, 8, 8, 8, 8, 8, 8, 8, 8, 8, 8, 8, 8, 8, 8, 8]⟩ : ByteArray) (ji19)
     replace p22 := eq_true p22
     replace q22 := eq_true q22
     go_wp2
     go_ret
     exact ⟨by first | rfl | (simp; done) | (simp only [← hji19] <;> (first | rfl | simp)) | (simp [*]; done), dr_⟩
    rw [if_pos c14] at H
    have c14b0 : decide (256 ≤ x0_1) = true := decide_eq_true c14
    clear c14
    obtain ⟨ji15, hji15⟩ : ∃ j_ : Int, ((x0_1 / 256) % 256) = j_ := ⟨_, rfl⟩
    replace H : (if 0 ≤ (ji15) then (if (ji15) < 256 then (some (wrap64 ((wrap64 (x2_1 + 8)) + (wrap64 (bt (⟨#[0, 1, 2, 2, 3, 3, 3, 3, 4, 4, 4, 4, 4, 4, 4, 4, 5, 5, 5, 5, 5, 5, 5, 5, 5, 5, 5, 5, 5, 5, 5, 5, 6, 6, 6, 6, 6, 6, 6, 6, 6, 6, 6, 6, 6, 6, 6, 6, 6, 6, 6, 6, 6, 6, 6, 6, 6, 6, 6, 6, 6, 6, 6, 6, 7, 7, 7, 7, 7, 7, 7, 7, 7, 7, 7, 7, 7, 7, 7, 7, 7, 7, 7, 7, 7, 7, 7, 7, 7, 7, 7, 7, 7, 7, 7, 7, 7, 7, 7, 7, 7, 7, 7, 7, 7, 7, 7, 7, 7, 7, 7, 7, 7, 7, 7, 7, 7, 7, 7, 7, 7, 7, 7, 7, 7, 7, 7, 7, 8, 8, 8, 8, 8, 8, 8, 8, 8, 8, 8, 8, 8, 8, 8, 8, 8, 8, 8, 8, 8, 8, 8, 8, 8, 8, 8, 8, 8, 8, 8, 8, 8, 8, 8, 8, 8, 8, 8, 8, 8, 8, 8, 8, 8, 8, 8, 8, 8, 8, 8, 8, 8, 8, 8, 8, 8, 8, 8, 8, 8, 8, 8, 8, 8, 8, 8, 8, 8, 8, 8, 8, 8, 8, 8, 8, 8, 8, 8, 8, 8, 8, 8, 8, 8, 8, 8, 8, 8, 8, 8, 8, 8, 8, 8, 8, 8, 8, 8, 8, 8, 8, 8, 8, 8, 8, 8, 8, 8, 8, 8, 8, 8, 8, 8, 8, 8, 8, 8, 8, 8, 8, 8, 8, 8, 8, 8, 8]⟩ : ByteArray) (ji15)))))) else (none)) else (none)) = some r := by first | (rw [hji15] at H; exact H) | (simp only [hji15] at H ⊢; exact H)
    replace H := ip_ H
    obtain ⟨-, c16b0, H⟩ := H
    replace H := ip_ H
    obtain ⟨-, c17b0, H⟩ := H
    obtain rfl := Option.some.inj H
    have p18 : 0 ≤ ((ji15) : Int) := od_
    have q18 : (ji15) < (256 : Int) := od_
    have hx18 := bt_at (⟨#[0, 1, 2, 2, 3, 3, 3, 3, 4, 4, 4, 4, 4, 4, 4, 4, 5, 5, 5, 5, 5, 5, 5, 5, 5, 5, 5, 5, 5, 5, 5, 5, 6, 6, 6, 6, 6, 6, 6, 6, 6, 6, 6, 6, 6, 6, 6, 6, 6, 6, 6, 6, 6, 6, 6, 6, 6, 6, 6, 6, 6, 6, 6, 6, 7, 7, 7, 7, 7, 7, 7, 7, 7, 7, 7, 7, 7, 7, 7, 7, 7, 7, 7, 7, 7, 7, 7, 7, 7, 7, 7, 7, 7, 7, 7, 7, 7, 7, 7, 7, 7, 7, 7, 7, 7, 7, 7, 7, 7, 7, 7, 7, 7, 7, 7, 7, 7, 7, 7, 7, 7, 7, 7, 7, 7, 7, 7, 7, 8, 8, 8, 8, 8, 8, 8, 8, 8, 8, 8, 8, 8, 8, 8, 8, 8, 8, 8, 8, 8, 8, 8, 8, 8, 8, 8, 8, 8, 8, 8, 8, 8, 8, 8, 8, 8, 8, 8, 8, 8, 8, 8, 8, 8, 8, 8, 8, 8, 8, 8, 8, 8, 8, 8, 8, 8, 8, 8, 8, 8, 8, 8, 8, 8, 8, 8, 8, 8, 8, 8, 8, 8, 8, 8, 8, 8, 8, 8, 8, 8, 8, 8, 8, 8, 8, 8, 8, 8, 8, 8, 8, 8, 8, 8, 8, 8, 8, 8, 8, 8, 8, 8, 8, 8, 8, 8, 8, 8, 8, 8, 8, 8, 8, 8, 8, 8, 8, 8, 8, 8, 8, 8, 8, 8, 8, 8, 8]⟩ : ByteArray) (ji15)
    replace p18 := eq_true p18
    replace q18 := eq_true q18
    go_wp2
    go_ret
    exact ⟨by first | rfl | (simp; done) | (simp only [← hji15] <;> (first | rfl | simp)) | (simp [*]; done), dr_⟩
   rw [if_pos c4] at H
   have c4b0 : decide (65536 ≤ x0_1) = true := decide_eq_true c4
   clear c4
   by_cases c5 : (x0_1 / 65536) ≥ 256
   ·rw [if_pos c5] at H
    have c5b0 : decide (256 ≤ (x0_1 / 65536)) = true := decide_eq_true c5
    clear c5
    obtain ⟨ji6, hji6⟩ : ∃ j_ : Int, (((x0_1 / 65536) / 256) % 256) = j_ := ⟨_, rfl⟩
    replace H : (if 0 ≤ (ji6) then (if (ji6) < 256 then (some (wrap64 ((wrap64 ((wrap64 (x2_1 + 16)) + 8)) + (wrap64 (bt (⟨#[0, 1, 2, 2, 3, 3, 3, 3, 4, 4, 4, 4, 4, 4, 4, 4, 5, 5, 5, 5, 5, 5, 5, 5, 5, 5, 5, 5, 5, 5, 5, 5, 6, 6, 6, 6, 6, 6, 6, 6, 6, 6, 6, 6, 6, 6, 6, 6, 6, 6, 6, 6, 6, 6, 6, 6, 6, 6, 6, 6, 6, 6, 6, 6, 7, 7, 7, 7, 7, 7, 7, 7, 7, 7, 7, 7, 7, 7, 7, 7, 7, 7, 7, 7, 7, 7, 7, 7, 7, 7, 7, 7, 7, 7, 7, 7, 7, 7, 7, 7, 7, 7, 7, 7, 7, 7, 7, 7, 7, 7, 7, 7, 7, 7, 7, 7, 7, 7, 7, 7, 7, 7, 7, 7, 7, 7, 7, 7, 8, 8, 8, 8, 8, 8, 8, 8, 8, 8, 8, 8, 8, 8, 8, 8, 8, 8, 8, 8, 8, 8, 8, 8, 8, 8, 8, 8, 8, 8, 8, 8, 8, 8, 8, 8, 8, 8, 8, 8, 8, 8, 8, 8, 8, 8, 8, 8, 8, 8, 8, 8, 8, 8, 8, 8, 8, 8, 8, 8, 8, 8, 8, 8, 8, 8, 8, 8, 8, 8, 8, 8, 8, 8, 8, 8, 8, 8, 8, 8, 8, 8, 8, 8, 8, 8, 8, 8, 8, 8, 8, 8, 8, 8, 8, 8, 8, 8, 8, 8, 8, 8, 8, 8, 8, 8, 8, 8, 8, 8, 8, 8, 8, 8, 8, 8, 8, 8, 8, 8, 8, 8, 8, 8, 8, 8, 8, 8]⟩ : ByteArray) (ji6)))))) else (none)) else (none)) = some r := by first | (rw [hji6] at H; exact H) | (simp only [hji6] at H ⊢; exact H)
    replace H := ip_ H
    obtain ⟨-, c7b0, H⟩ := H
    replace H := ip_ H
    obtain ⟨-, c8b0, H⟩ := H
    obtain rfl := Option.some.inj H
    have p9 : 0 ≤ ((ji6) : Int) := od_
    have q9 : (ji6) < (256 : Int) := od_
    have hx9 := bt_at (⟨#[0, 1, 2, 2, 3, 3, 3, 3, 4, 4, 4, 4, 4, 4, 4, 4, 5, 5, 5, 5, 5, 5, 5, 5, 5, 5, 5, 5, 5, 5, 5, 5, 6, 6, 6, 6, 6, 6, 6, 6, 6, 6, 6, 6, 6, 6, 6, 6, 6, 6, 6, 6, 6, 6, 6, 6, 6, 6, 6, 6, 6, 6, 6, 6, 7, 7, 7, 7, 7, 7, 7, 7, 7, 7, 7, 7, 7, 7, 7, 7, 7, 7, 7, 7, 7, 7, 7, 7, 7, 7, 7, 7, 7, 7, 7, 7, 7, 7, 7, 7, 7, 7, 7, 7, 7, 7, 7, 7, 7, 7, 7, 7, 7, 7, 7, 7, 7, 7, 7, 7, 7, 7, 7, 7, 7, 7, 7, 7, 8, 8, 8, 8, 8, 8, 8, 8, 8, 8, 8, 8, 8, 8, 8, 8, 8, 8, 8, 8, 8, 8, 8, 8, 8, 8, 8, 8, 8, 8, 8, 8, 8, 8, 8, 8, 8, 8, 8, 8, 8, 8, 8, 8, 8, 8, 8, 8, 8, 8, 8, 8, 8, 8, 8, 8, 8, 8, 8, 8, 8, 8, 8, 8, 8, 8, 8, 8, 8, 8, 8, 8, 8, 8, 8, 8, 8, 8, 8, 8, 8, 8, 8, 8, 8, 8, 8, 8, 8, 8, 8, 8, 8, 8, 8, 8, 8, 8, 8, 8, 8, 8, 8, 8, 8, 8, 8, 8, 8, 8, 8, 8, 8, 8, 8, 8, 8, 8, 8, 8, 8, 8, 8, 8, 8, 8, 8, 8]⟩ : ByteArray) (ji6)
    replace p9 := eq_true p9
    replace q9 := eq_true q9
    go_wp2
    go_ret
    exact ⟨by first | rfl | (simp; done) | (simp only [← hji6] <;> (first | rfl | simp)) | (simp [*]; done), dr_⟩
   rw [if_neg c5] at H
   have c5b0 : decide (256 ≤ (x0_1 / 65536)) = false := decide_eq_false c5
   clear c5
   obtain ⟨ji10, hji10⟩ : ∃ j_ : Int, ((x0_1 / 65536) % 256) = j_ := ⟨_, rfl⟩
   replace H : (if 0 ≤ (ji10) then (if (ji10) < 256 then (some (wrap64 ((wrap64 (x2_1 + 16)) + (wrap64 (bt (⟨#[0, 1, 2, 2, 3, 3, 3, 3, 4, 4, 4, 4, 4, 4, 4, 4, 5, 5, 5, 5, 5, 5, 5, 5, 5, 5, 5, 5, 5, 5, 5, 5, 6, 6, 6, 6, 6, 6, 6, 6, 6, 6, 6, 6, 6, 6, 6, 6, 6, 6, 6, 6, 6, 6, 6, 6, 6, 6, 6, 6, 6, 6, 6, 6, 7, 7, 7, 7, 7, 7, 7, 7, 7, 7, 7, 7, 7, 7, 7, 7, 7, 7, 7, 7, 7, 7, 7, 7, 7, 7, 7, 7, 7, 7, 7, 7, 7, 7, 7, 7, 7, 7, 7, 7, 7, 7, 7, 7, 7, 7, 7, 7, 7, 7, 7, 7, 7, 7, 7, 7, 7, 7, 7, 7, 7, 7, 7, 7, 8, 8, 8, 8, 8, 8, 8, 8, 8, 8, 8, 8, 8, 8, 8, 8, 8, 8, 8, 8, 8, 8, 8, 8, 8, 8, 8, 8, 8, 8, 8, 8, 8, 8, 8, 8, 8, 8, 8, 8, 8, 8, 8, 8, 8, 8, 8, 8, 8, 8, 8, 8, 8, 8, 8, 8, 8, 8, 8, 8, 8, 8, 8, 8, 8, 8, 8, 8, 8, 8, 8, 8, 8, 8, 8, 8, 8, 8, 8, 8, 8, 8, 8, 8, 8, 8, 8, 8, 8, 8, 8, 8, 8, 8, 8, 8, 8, 8, 8, 8, 8, 8, 8, 8, 8, 8, 8, 8, 8, 8, 8, 8, 8, 8, 8, 8, 8, 8, 8, 8, 8, 8, 8, 8, 8, 8, 8, 8]⟩ : ByteArray) (ji10)))))) else (none)) else (none)) = some r := by first | (rw [hji10] at H; exact H) | (simp only [hji10] at H ⊢; exact H)
   replace H := ip_ H
   obtain ⟨-, c11b0, H⟩ := H
   replace H := ip_ H
   obtain ⟨-, c12b0, H⟩ := H
   obtain rfl := Option.some.inj H
   have p13 : 0 ≤ ((ji10) : Int) := od_
   have q13 : (ji10) < (256 : Int) := od_
   have hx13 := bt_at (⟨#[0, 1, 2, 2, 3, 3, 3, 3, 4, 4, 4, 4, 4, 4, 4, 4, 5, 5, 5, 5, 5, 5, 5, 5, 5, 5, 5, 5, 5, 5, 5, 5, 6, 6, 6, 6, 6, 6, 6, 6, 6, 6, 6, 6, 6, 6, 6, 6, 6, 6, 6, 6, 6, 6, 6, 6, 6, 6, 6, 6, 6, 6, 6, 6, 7, 7, 7, 7, 7, 7, 7, 7, 7, 7, 7, 7, 7, 7, 7, 7, 7, 7, 7, 7, 7, 7, 7, 7, 7, 7, 7, 7, 7, 7, 7, 7, 7, 7, 7, 7, 7, 7, 7, 7, 7, 7, 7, 7, 7, 7, 7, 7, 7, 7, 7, 7, 7, 7, 7, 7, 7, 7, 7, 7, 7, 7, 7, 7, 8, 8, 8, 8, 8, 8, 8, 8, 8, 8, 8, 8, 8, 8, 8, 8, 8, 8, 8, 8, 8, 8, 8, 8, 8, 8, 8, 8, 8, 8, 8, 8, 8, 8, 8, 8, 8, 8, 8, 8, 8, 8, 8, 8, 8, 8, 8, 8, 8, 8, 8, 8, 8, 8, 8, 8, 8, 8, 8, 8, 8, 8, 8, 8, 8, 8, 8, 8, 8, 8, 8, 8, 8, 8, 8, 8, 8, 8, 8, 8, 8, 8, 8, 8, 8, 8, 8, 8, 8, 8, 8, 8, 8, 8, 8, 8, 8, 8, 8, 8, 8, 8, 8, 8, 8, 8, 8, 8, 8, 8, 8, 8, 8, 8, 8, 8, 8, 8, 8, 8, 8, 8, 8, 8, 8, 8, 8, 8]⟩ : ByteArray) (ji10)
   replace p13 := eq_true p13
   replace q13 := eq_true q13
   go_wp2
   go_ret
   exact ⟨by first | rfl | (simp; done) | (simp only [← hji10] <;> (first | rfl | simp)) | (simp [*]; done), dr_⟩
def pack_Number.l0 : Nat → Int → Int → List Int → Int → Int → Option (ByteArray)
 | 0, _, _, _, _, _ => none
 | k + 1, x0, x3, x4, x17, x18 => if x18 < x17 then (if 0 ≤ (wrap64 (8 * x18)) then (if 0 ≤ (wrap64 (x3 - x18)) then (if (wrap64 (x3 - x18)) < (x4.length : Int) then (pack_Number.l0 k x0 x3 (x4.set ((wrap64 (x3 - x18)) : Int).toNat ((shr .u64 x0 (wrap64 (8 * x18))) % 256)) x17 (wrap64 (x18 + 1))) else (none)) else (none)) else (none)) else (some (strOfNums x4))
def pack_Number.f (k : Nat) (a0 : Int) : Option (ByteArray) := (bits_Len64.f k a0).bind fun t119 => (if 0 ≤ (wrap64 ((wrap64 (Int.tdiv (wrap64 (t119 + 7)) 8)) + 1)) then (if (wrap64 ((wrap64 (Int.tdiv (wrap64 (t119 + 7)) 8)) + 1) : Int).toNat ≤ 281474976710656 then ((some (List.replicate (wrap64 ((wrap64 (Int.tdiv (wrap64 (t119 + 7)) 8)) + 1) : Int).toNat 0 : List Int)).bind fun y120 => (if 0 < (y120.length : Int) then (pack_Number.l0 k a0 (wrap64 (Int.tdiv (wrap64 (t119 + 7)) 8)) (y120.set (0 : Int).toNat ((wrap64 (Int.tdiv (wrap64 (t119 + 7)) 8)) % 256)) (wrap64 (Int.tdiv (wrap64 (t119 + 7)) 8)) 0) else (none))) else (none)) else (none))
theorem pack_Number.mono_l : ∀ k, (∀ y0 y1 y2 y3 y4, LeO (pack_Number.l0 k y0 y1 y2 y3 y4) (pack_Number.l0 (k + 1) y0 y1 y2 y3 y4))
 | 0 => fun _ _ _ _ _ r h => by simp [pack_Number.l0] at h
 | k + 1 => by
  have ih0 := pack_Number.mono_l k
  ·intro y0 y1 y2 y3 y4
   unfold pack_Number.l0
   repeat' with_reducible first | apply ih0 | apply bits_Len64.mono | apply LeO.refl | apply LeO.none | apply LeO.ite | refine LeO.bind ?_ (fun _ => ?_)
theorem pack_Number.mono : ∀ a0 k, LeO (pack_Number.f k a0) (pack_Number.f (k + 1) a0) := by
 intro a0 k
 have ih0 := pack_Number.mono_l k
 unfold pack_Number.f
 repeat' with_reducible first | apply ih0 | apply bits_Len64.mono | apply LeO.refl | apply LeO.none | apply LeO.ite | refine LeO.bind ?_ (fun _ => ?_)
theorem pack_Number.calls (k : Nat) (a0 : Int) (r : ByteArray) (w : World) (h : pack_Number.f k a0 = some r) :
  Calls Try.prog 63 #[.int .u64 a0] w fun e w' => e = .returned (.string r) ∧ Below w.heap.size w w' := by
 have HB := a_ (Below.refl w.heap.size w)
 have H := h
 unfold pack_Number.f at H
 clear h
 obtain ⟨t_1, A_2, H⟩ := ob_ H
 try dsimp only at H
 obtain ⟨ji_1, hji_1⟩ : ∃ j_ : Int, (wrap64 ((wrap64 (Int.tdiv (wrap64 (t_1 + 7)) 8)) + 1)) = j_ := ⟨_, rfl⟩
 replace H : (if 0 ≤ (ji_1) then (if (ji_1 : Int).toNat ≤ 281474976710656 then ((some (List.replicate (ji_1 : Int).toNat 0 : List Int)).bind fun y120 => (if 0 < (y120.length : Int) then (pack_Number.l0 k a0 (wrap64 (Int.tdiv (wrap64 (t_1 + 7)) 8)) (y120.set (0 : Int).toNat ((wrap64 (Int.tdiv (wrap64 (t_1 + 7)) 8)) % 256)) (wrap64 (Int.tdiv (wrap64 (t_1 + 7)) 8)) 0) else (none))) else (none)) else (none)) = some r := by first | (rw [hji_1] at H; exact H) | (simp only [hji_1] at H ⊢; exact H)
 (try rw [hji_1] at A_2)
 have hji_2 : (IntKind.i64.wrap ((wrap64 (Int.tdiv (wrap64 (t_1 + 7)) 8)) + 1)) = ji_1 := (i64_w _).trans hji_1
 replace H := iq_ H
 obtain ⟨c_1, H⟩ := H
 have c_2 := eq_true c_1
 have c_3 : decide (0 ≤ (ji_1)) = true := decide_eq_true c_1
 clear c_1
 replace H := iq_ H
 obtain ⟨c_4, H⟩ := H
 have c_5 := eq_true c_4
 have c_6 : decide ((ji_1 : Int).toNat ≤ 281474976710656) = true := decide_eq_true c_4
 clear c_4
 obtain ⟨y_1, hy_1⟩ : ∃ y_ : List Int, y_ = (List.replicate (ji_1 : Int).toNat 0) := ⟨_, rfl⟩
 replace H : (if 0 < (y_1.length : Int) then (pack_Number.l0 k a0 (wrap64 (Int.tdiv (wrap64 (t_1 + 7)) 8)) (y_1.set (0 : Int).toNat ((wrap64 (Int.tdiv (wrap64 (t_1 + 7)) 8)) % 256)) (wrap64 (Int.tdiv (wrap64 (t_1 + 7)) 8)) 0) else (none)) = some r := by first | (rw [hy_1]; with_reducible exact H) | (have H_1 := (Option.bind_some _ _).symm.trans H; rw [hy_1]; with_reducible exact H_1) | (have H_1 := (Option.bind_some _ _).symm.trans H; with_reducible exact H_1) | with_reducible exact H | (rw [hy_1]; exact H) | exact H
 have Ny_1 := a_ hy_1
 clear hy_1
 replace H := iq_ H
 obtain ⟨c_7, H⟩ := H
 have c_8 : decide (0 < (y_1.length : Int)) = true := decide_eq_true c_7
 have c_9 : decide (0 < y_1.length) = true := decide_eq_true (by omega)
 clear c_7
 obtain ⟨y_2, hy_2⟩ : ∃ y_ : List Int, y_ = (y_1.set (0 : Int).toNat ((wrap64 (Int.tdiv (wrap64 (t_1 + 7)) 8)) % 256)) := ⟨_, rfl⟩
 replace H : (pack_Number.l0 k a0 (wrap64 (Int.tdiv (wrap64 (t_1 + 7)) 8)) y_2 (wrap64 (Int.tdiv (wrap64 (t_1 + 7)) 8)) 0) = some r := by first | (rw [hy_2]; with_reducible exact H) | (have H_1 := (Option.bind_some _ _).symm.trans H; rw [hy_2]; with_reducible exact H_1) | (have H_1 := (Option.bind_some _ _).symm.trans H; with_reducible exact H_1) | with_reducible exact H | (rw [hy_2]; exact H) | exact H
 have Ny_2 := a_ hy_2
 clear hy_2
 have H' := a_ H
 clear H
 go_enter Try.func63, Try.ntmps63
 go_wp2_with (first | ((with_reducible refine gk_ 94 ?_); refine gl_ (some 7) Try.func94 #[.int .u64 a0] ?_; (with_reducible refine (bits_Len64.calls _ _ _ _ A_2.out).mono ?_); rintro e w' ⟨rfl, ⟨nd, rfl⟩⟩; refine ⟨_, rfl, ?_⟩) | ((with_reducible refine gd_ 12 ?_); refine Kd.R_make (Kd.int .u8) _ 5 rfl (N := 12) rfl 111 _ _ rfl ji_1 rfl rfl Try.underlying111 (.int .u8 0) 1 info5 rfl (by decide) (by omega) 0 (ok := fun _ => True) (okp := fun _ => True) rfl (fun _ hk => hk) trivial od_ (Nat.le_trans (Nat.mul_le_mul_right _ (od_ : ji_1.toNat ≤ 281474976710656)) (by omega)) (Below.refl _ _) (Nat.le_refl _) ?_; intro v_1 w_1 ho_1 hb hg_ hnew_; clear hg_ hnew_; (first | rw [← Ny_1.out] at ho_1 | (simp only [Int.reduceToNat] at ho_1; rw [← Ny_1.out] at ho_1)); have HO_1 := a_ (Kd.R_lower ho_1 (below_size (bl_ HB))); replace HB := hB_ (bl_ HB) hb; clear hb ho_1; have p_1 : 0 ≤ (0 : Int) := (by omega); have q_1 : (0 : Int) < ((y_1.length : Int) : Int) := od_; have qi_1 : (0 < y_1.length) = True := eq_true (by omega); obtain ⟨go_1, co_1, eo_1, gb_1, gl_1, cl_1, HG_1⟩ := Kd.R_form HO_1.out (by omega); (first | cases eo_1 | (injection eo_1 with ea_ en_ ec_; (first | subst ea_ | (injection ea_ with ea_; subst ea_)); subst ec_; clear en_)); have GB_1 := a_ gb_1; have GG_1 := a_ HG_1; clear gb_1 gl_1 HG_1; obtain ⟨hx_1, hf_1⟩ := Kd.R_celln 0 HO_1.out (0 : Int) p_1 q_1; (try rw [show ((0 : Int)).toNat = 0 from rfl] at hx_1); (try simp only [Nat.reduceMul, Nat.zero_mul, Nat.zero_add, Nat.reduceAdd] at hx_1); (try rw [show ((0 : Int)).toNat = 0 from rfl] at hf_1); (try simp only [Nat.reduceMul, Nat.zero_mul, Nat.zero_add, Nat.reduceAdd] at hf_1); replace p_1 := eq_true p_1; replace q_1 := eq_true q_1; obtain ⟨hy_3, hz_1⟩ := Kd.R_celln 0 HO_1.out (0 : Int) (by omega) od_; (try simp only [Int.reduceToNat, Int.toNat_zero, Int.toNat_ofNat, Nat.reduceMul, Nat.zero_mul, Nat.zero_add] at hy_3 hz_1); (try rw [show ((0 : Int)).toNat = 0 from rfl] at hy_3); (try rw [show ((0 : Int)).toNat = 0 from rfl] at hz_1); have HP_1 := Kd.R_putg HO_1.out (0 : Int) ((wrap64 (Int.tdiv (wrap64 (t_1 + 7)) 8)) % 256)) | ((with_reducible refine gate_store (t := 5) (p := 16) rfl ?_); refine store_event (t := 5) (p := 16) (v := ?vo_w11) (w1 := (w_1.setCell ⟨go_1, (0 : Int).toNat, none⟩ (.int .u8 ((wrap64 (Int.tdiv (wrap64 (t_1 + 7)) 8)) % 256)))) ?hg ?ho ?hn ?hr ?_; (case ho => rfl); (case hg => rfl); (case hn => rfl); (case hr => first | (go_simp; done) | (go_simp; rfl)); intro w_2 hw; have hg : w_1.grownBy w_2 (some go_1) := (by rw [hw]; exact HP_1.2); have hp_ : Kd.R (Kd.int .u8) 5 w_2 w.heap.size (fun _ => True) (.slice (some ⟨go_1, 0, none⟩) y_1.length co_1) y_2 := (by rw [hw, Ny_2.out]; exact HP_1.1); clear HP_1; replace HO_1 := a_ (hp_); replace HB := a_ ((by rw [hw]; exact below_set (HB.out) GB_1.out : Below w.heap.size w w_2)); clear hg hw hp_))
 go_loopg [18] k (fun kq v18 w' => ∃ (x4_1 : List Int) (x18_1 : Int), v18 = .int .i64 x18_1 ∧ Aside0 (pack_Number.l0 kq a0 (wrap64 (Int.tdiv (wrap64 (t_1 + 7)) 8)) x4_1 (wrap64 (Int.tdiv (wrap64 (t_1 + 7)) 8)) x18_1 = some r) ∧ Aside0 (kq ≤ k) ∧ Aside0 (Kd.R (Kd.int .u8) 5 w' w.heap.size (fun _ => True) (.slice (some ⟨go_1, 0, none⟩) y_1.length co_1) x4_1) ∧ Aside0 (Below w.heap.size w w'))
 case atStart => exact ⟨(y_2), (0), fz_, H', ⟨Nat.le_refl _⟩, ⟨by refine rq_ ?_; exact HO_1.out⟩, ⟨bl_ HB⟩⟩
 case round =>
  clear H'
  try clear c_1
  try clear c_2
  try clear c_3
  try clear c_4
  try clear c_5
  try clear c_6
  try clear c_7
  try clear c_8
  try clear c_9
  try clear p_1
  try clear q_1
  try clear qi_1
  try clear hx_1
  try clear p_1
  try clear q_1
  obtain ⟨x_1, x_2, rfl, HA, HK_1, HO_2, HB⟩ := hrel
  have hl_1 := (Kd.R_reads' HO_2.out).1
  rw [hl_1] at HO_2
  (try simp only [hl_1])
  cases gk with
  | zero => exact absurd HA.out (by simp [pack_Number.l0])
  | succ k1 =>
   have H := HA.out
   clear HA
   simp only [pack_Number.l0] at H
   by_cases c_10 : x_2 < (wrap64 (Int.tdiv (wrap64 (t_1 + 7)) 8))
   rotate_left
   ·rw [if_neg c_10] at H
    have c_11 : decide (x_2 < (wrap64 (Int.tdiv (wrap64 (t_1 + 7)) 8))) = false := decide_eq_false c_10
    clear c_10
    obtain rfl := Option.some.inj H
    have hcv_1 := own_string (P := Try.prog) Try.underlying111 Try.underlying5 Try.underlying9 (Kd.own_of_R HO_2.out)
    go_wp2
    go_ret
    exact ⟨by first | rfl | (simp [errW_none, errW_some] <;> rfl) | (simp only [← hji_1]; first | rfl | (simp [errW_none, errW_some] <;> rfl)) | (simp [*, errW_none, errW_some] <;> rfl), bl_ HB⟩
   rw [if_pos c_10] at H
   have c_11 : decide (x_2 < (wrap64 (Int.tdiv (wrap64 (t_1 + 7)) 8))) = true := decide_eq_true c_10
   clear c_10
   obtain ⟨ji_2, hji_3⟩ : ∃ j_ : Int, (wrap64 (8 * x_2)) = j_ := ⟨_, rfl⟩
   replace H : (if 0 ≤ (ji_2) then (if 0 ≤ (wrap64 ((wrap64 (Int.tdiv (wrap64 (t_1 + 7)) 8)) - x_2)) then (if (wrap64 ((wrap64 (Int.tdiv (wrap64 (t_1 + 7)) 8)) - x_2)) < (x_1.length : Int) then (pack_Number.l0 k1 a0 (wrap64 (Int.tdiv (wrap64 (t_1 + 7)) 8)) (x_1.set ((wrap64 ((wrap64 (Int.tdiv (wrap64 (t_1 + 7)) 8)) - x_2)) : Int).toNat ((shr .u64 a0 (ji_2)) % 256)) (wrap64 (Int.tdiv (wrap64 (t_1 + 7)) 8)) (wrap64 (x_2 + 1))) else (none)) else (none)) else (none)) = some r := by first | (rw [hji_3] at H; exact H) | (simp only [hji_3] at H ⊢; exact H)
   have hji_4 : (IntKind.i64.wrap (8 * x_2)) = ji_2 := (i64_w _).trans hji_3
   replace H := iq_ H
   obtain ⟨c_12, H⟩ := H
   have c_13 := eq_true c_12
   have c_14 : decide (0 ≤ (ji_2)) = true := decide_eq_true c_12
   clear c_12
   obtain ⟨ji_3, hji_5⟩ : ∃ j_ : Int, (shr .u64 a0 (ji_2)) = j_ := ⟨_, rfl⟩
   replace H : (if 0 ≤ (wrap64 ((wrap64 (Int.tdiv (wrap64 (t_1 + 7)) 8)) - x_2)) then (if (wrap64 ((wrap64 (Int.tdiv (wrap64 (t_1 + 7)) 8)) - x_2)) < (x_1.length : Int) then (pack_Number.l0 k1 a0 (wrap64 (Int.tdiv (wrap64 (t_1 + 7)) 8)) (x_1.set ((wrap64 ((wrap64 (Int.tdiv (wrap64 (t_1 + 7)) 8)) - x_2)) : Int).toNat ((ji_3) % 256)) (wrap64 (Int.tdiv (wrap64 (t_1 + 7)) 8)) (wrap64 (x_2 + 1))) else (none)) else (none)) = some r := by first | (rw [hji_5] at H; exact H) | (simp only [hji_5] at H ⊢; exact H)
   have hji_6 : (a0 / 2 ^ min (ji_2).toNat 64) = ji_3 := hji_5
   have hji_7 : (ji_2) ≤ 64 → (a0 / 2 ^ (ji_2).toNat) = ji_3 := shr_small hji_5
   obtain ⟨ji_4, hji_8⟩ : ∃ j_ : Int, (wrap64 ((wrap64 (Int.tdiv (wrap64 (t_1 + 7)) 8)) - x_2)) = j_ := ⟨_, rfl⟩
   replace H : (if 0 ≤ (ji_4) then (if (ji_4) < (x_1.length : Int) then (pack_Number.l0 k1 a0 (wrap64 (Int.tdiv (wrap64 (t_1 + 7)) 8)) (x_1.set ((ji_4) : Int).toNat ((ji_3) % 256)) (wrap64 (Int.tdiv (wrap64 (t_1 + 7)) 8)) (wrap64 (x_2 + 1))) else (none)) else (none)) = some r := by first | (rw [hji_8] at H; exact H) | (simp only [hji_8] at H ⊢; exact H)
   have hji_9 : (IntKind.i64.wrap ((wrap64 (Int.tdiv (wrap64 (t_1 + 7)) 8)) - x_2)) = ji_4 := (i64_w _).trans hji_8
   replace H := ip_ H
   obtain ⟨-, c_16, H⟩ := H
   replace H := iq_ H
   obtain ⟨c_17, H⟩ := H
   have c_18 : decide ((ji_4) < (x_1.length : Int)) = true := decide_eq_true c_17
   (try rw [hl_1] at c_18)
   clear c_17
   obtain ⟨y_3, hy_4⟩ : ∃ y_ : List Int, y_ = (x_1.set ((ji_4) : Int).toNat ((ji_3) % 256)) := ⟨_, rfl⟩
   replace H : (pack_Number.l0 k1 a0 (wrap64 (Int.tdiv (wrap64 (t_1 + 7)) 8)) y_3 (wrap64 (Int.tdiv (wrap64 (t_1 + 7)) 8)) (wrap64 (x_2 + 1))) = some r := by first | (rw [hy_4]; with_reducible exact H) | (have H_1 := (Option.bind_some _ _).symm.trans H; rw [hy_4]; with_reducible exact H_1) | (have H_1 := (Option.bind_some _ _).symm.trans H; with_reducible exact H_1) | with_reducible exact H | (rw [hy_4]; exact H) | exact H
   have Ny_3 := a_ hy_4
   clear hy_4
   have H' := a_ H
   clear H
   have p_2 : 0 ≤ ((ji_4) : Int) := od_
   have q_2 : ((ji_4) : Int) < ((x_1.length : Int) : Int) := od_
   obtain ⟨hx_2, hf_2⟩ := Kd.R_celln 0 HO_2.out ((ji_4) : Int) p_2 q_2
   replace p_2 := eq_true p_2
   replace q_2 := eq_true q_2
   have HP_2 := Kd.R_putg HO_2.out ((ji_4) : Int) ((ji_3) % 256)
   go_wp2_with (first | ((with_reducible refine gate_store (t := 5) (p := 30) rfl ?_); refine store_event (t := 5) (p := 30) (v := ?vo_w21) (w1 := (wr.setCell ⟨go_1, ((ji_4) : Int).toNat, none⟩ (.int .u8 ((ji_3) % 256)))) ?hg ?ho ?hn ?hr ?_; (case ho => rfl); (case hg => rfl); (case hn => rfl); (case hr => first | (go_simp; done) | (go_simp; rfl)); intro w_3 hw; have hg : wr.grownBy w_3 (some go_1) := (by rw [hw]; exact HP_2.2); have hp_ : Kd.R (Kd.int .u8) 5 w_3 w.heap.size (fun _ => True) (.slice (some ⟨go_1, 0, none⟩) x_1.length co_1) y_3 := (by rw [hw, Ny_3.out]; exact HP_2.1); clear HP_2; replace HO_2 := a_ (hp_); replace HB := a_ ((by rw [hw]; exact below_set (HB.out) GB_1.out : Below w.heap.size w w_3)); clear hg hw hp_))
   (try simp only [← hl_1])
   go_roundg k1
   case measure => have := HK_1.out; omega
   case rel => exact ⟨(y_3), (wrap64 (x_2 + 1)), fz_, H', ⟨by have := HK_1.out; omega⟩, ⟨by (try simp only [hl_1]); refine rq_ ?_; exact HO_2.out⟩, ⟨bl_ HB⟩⟩

def wal_Ints.l0 : Nat → ByteArray → List Int → Int → Int → Option ByteArray
 | 0, _, _, _, _ => none
 | k + 1, s, xs, m, j => if j < m then (if 0 ≤ j then (if j < (xs.length : Int) then ((pack_Number.f k (IntKind.u64.wrap (rd xs j))).bind fun t => (if s.size + t.size ≤ 140737488355328 then (wal_Ints.l0 k (s ++ t) xs m (wrap64 (j + 1))) else none)) else none) else none) else (some s)
def wal_Ints.f (k : Nat) (l0 : List Int) : Option ByteArray := (pack_Number.f k (IntKind.u64.wrap ((l0.length : Int)))).bind fun t => (if (⟨#[]⟩ : ByteArray).size + t.size ≤ 140737488355328 then (wal_Ints.l0 k ((⟨#[]⟩ : ByteArray) ++ t) l0 (l0.length : Int) 0) else none)
theorem wal_Ints.mono_l : ∀ k, (∀ y0 y1 y2 y3, LeO (wal_Ints.l0 k y0 y1 y2 y3) (wal_Ints.l0 (k + 1) y0 y1 y2 y3))
 | 0 => fun _ _ _ _ r h => by simp [wal_Ints.l0] at h
 | k + 1 => by
  have ih0 := wal_Ints.mono_l k
  intro y0 y1 y2 y3
  unfold wal_Ints.l0
  repeat' with_reducible first | apply ih0 | apply pack_Number.mono | apply LeO.refl | apply LeO.none | apply LeO.ite | refine LeO.bind ?_ (fun _ => ?_)
theorem wal_Ints.mono : ∀ a0 k, LeO (wal_Ints.f k a0) (wal_Ints.f (k + 1) a0) := fun a0 k => LeO.bind (pack_Number.mono _ k) (fun _ => LeO.ite (wal_Ints.mono_l k _ _ _ _) (LeO.none _))
theorem wal_Ints.calls (k : Nat) (A0 : Option Addr) (c0 : Nat) (l0 : List Int) (r : ByteArray) (w : World) (hr0 : Kd.C (Kd.int .i64) w A0 l0.length l0) (hc0 : l0.length ≤ c0) (h : wal_Ints.f k l0 = some r) :
  Calls Try.prog 82 #[.slice A0 l0.length c0] w fun e w' => e = .returned (.string r) ∧ Below w.heap.size w w' := by
 have HR0 := a_ hr0
 have HC0 := a_ hc0
 clear hr0 hc0
 have HB := a_ (Below.refl w.heap.size w)
 obtain ⟨t1, A10, H⟩ := Option.bind_eq_some_iff.mp (show ((pack_Number.f k (IntKind.u64.wrap ((l0.length : Int)))).bind fun t => (if (⟨#[]⟩ : ByteArray).size + t.size ≤ 140737488355328 then (wal_Ints.l0 k ((⟨#[]⟩ : ByteArray) ++ t) l0 (l0.length : Int) 0) else none)) = some r from h)
 have A1 := a_ A10
 clear h A10
 by_cases c1 : (⟨#[]⟩ : ByteArray).size + t1.size ≤ 140737488355328
 case neg => rw [if_neg c1] at H; exact absurd H (by simp)
 rw [if_pos c1] at H
 have L1 := a_ c1
 clear c1
 have H' := a_ H
 clear H
 go_enter Try.func82, Try.ntmps82
 go_wp2_with (first | ((with_reducible refine gd_ 3 ?_); refine bx_ 3 #[.pointer none, .slice none 0 0] 125 ?_; intro gb hg w_ hbox hb; have GE := a_ (bs_0 hg HB); have BI := a_ (Go.Proofs.Ytpigjmjbfpipnaa.Bld.IsB.fresh GE.out hbox); replace HB := hB_ (bl_ HB) hb; clear hb hbox hg) | (go_at_call 63; (with_reducible refine (pack_Number.calls _ _ _ _ A1.out).mono ?_); rintro e w4 ⟨rfl, hb⟩; replace BI := a_ (Go.Proofs.Ytpigjmjbfpipnaa.Bld.IsB.below BI.out hb); replace HB := hB_ (bl_ HB) hb; clear hb) | (go_at_call 104; refine (Go.Proofs.Ytpigjmjbfpipnaa.Bld.write w.heap.size gb ⟨#[]⟩ t1 _ BI.out L1.out HB.out.size).mono ?_; rintro e w5 ⟨rfl, bi, hb⟩; replace BI := a_ bi; replace HB := a_ (HB.out.trans hb); clear bi hb))
 go_loopg [13] k (fun kq v13 w' => ∃ (s : ByteArray) (x13 : Int), v13 = .int .i64 x13 ∧ Aside0 (wal_Ints.l0 kq s l0 (l0.length : Int) x13 = some r) ∧ Aside0 (kq ≤ k) ∧ Aside0 (Go.Proofs.Ytpigjmjbfpipnaa.Bld.IsB w' w.heap.size gb s) ∧ Aside0 (Below w.heap.size w w'))
 case atStart => exact ⟨_, 0, fz_, H', ⟨Nat.le_refl _⟩, BI, ⟨bl_ HB⟩⟩
 case round =>
  clear H' BI HB
  obtain ⟨s, x13, rfl, HA, HK1, BI, HB⟩ := hrel
  cases gk with
  | zero => exact absurd HA.out (by simp [wal_Ints.l0])
  | succ k1 =>
   have H := HA.out
   clear HA
   simp only [wal_Ints.l0] at H
   by_cases c3 : x13 < (l0.length : Int)
   rotate_left
   ·rw [if_neg c3] at H
    have c3b0 : decide (x13 < (l0.length : Int)) = false := decide_eq_false c3
    clear c3
    obtain rfl := Option.some.inj H
    go_wp2_with (first | (go_at_call 105; refine (Go.Proofs.Ytpigjmjbfpipnaa.Bld.str w.heap.size gb s _ BI.out HB.out.size).mono ?_; rintro e w5 ⟨rfl, hb⟩; replace HB := a_ (HB.out.trans hb); clear hb))
    go_ret
    exact ⟨fz_, bl_ HB⟩


   rw [if_pos c3] at H
   have c3b0 : decide (x13 < (l0.length : Int)) = true := decide_eq_true c3
   by_cases c4 : 0 ≤ x13
   rotate_left
   ·rw [if_neg c4] at H
    exact absurd H (by simp)
   rw [if_pos c4, if_pos c3] at H
   have c4b0 : decide (0 ≤ x13) = true := decide_eq_true c4
   obtain ⟨t2, A20, H⟩ := Option.bind_eq_some_iff.mp H
   have A2 := a_ A20
   clear A20
   by_cases c5 : s.size + t2.size ≤ 140737488355328
   case neg => rw [if_neg c5] at H; exact absurd H (by simp)
   rw [if_pos c5] at H
   have L5 := a_ c5
   clear c5
   have H' := a_ H
   clear H
   obtain ⟨ad240, e240, hx240_0⟩ := Kd.at_int HR0.out x13 c4 c3
   cases e240
   replace hx240_0 := hc_ HB hx240_0
   replace c4 := eq_true c4
   replace c3 := eq_true c3
   go_wp2_with (first | (go_at_call 63; (with_reducible refine (pack_Number.calls _ _ _ _ A2.out).mono ?_); rintro e w4 ⟨rfl, hb⟩; replace BI := a_ (Go.Proofs.Ytpigjmjbfpipnaa.Bld.IsB.below BI.out hb); replace HB := hB_ (bl_ HB) hb; clear hb) | (go_at_call 104; refine (Go.Proofs.Ytpigjmjbfpipnaa.Bld.write w.heap.size gb s t2 _ BI.out L5.out HB.out.size).mono ?_; rintro e w5 ⟨rfl, bi, hb⟩; replace BI := a_ bi; replace HB := a_ (HB.out.trans hb); clear bi hb))
   go_roundg k1
   case measure => have := HK1.out; omega
   case rel => exact ⟨_, (wrap64 (x13 + 1)), fz_, H', ⟨by have := HK1.out; omega⟩, BI, ⟨bl_ HB⟩⟩
def pack_Text.f (k : Nat) (a0 : ByteArray) : Option (ByteArray) := (pack_Number.f k (IntKind.u64.wrap ((a0.size : Int)))).bind fun t125 => (if t125.size + a0.size ≤ 9223372036854775807 then (some (t125 ++ a0)) else (none))
theorem pack_Text.mono : ∀ a0 k, LeO (pack_Text.f k a0) (pack_Text.f (k + 1) a0) := by
 intro a0 k
 unfold pack_Text.f
 repeat' with_reducible first | apply pack_Number.mono | apply LeO.refl | apply LeO.none | apply LeO.ite | refine LeO.bind ?_ (fun _ => ?_)
theorem pack_Text.calls (k : Nat) (a0 : ByteArray) (r : ByteArray) (w : World) (h : pack_Text.f k a0 = some r) :
  Calls Try.prog 83 #[.string a0] w fun e w' => e = .returned (.string r) ∧ Below w.heap.size w w' := by
 have HB := a_ (Below.refl w.heap.size w)
 have H := h
 unfold pack_Text.f at H
 clear h
 obtain ⟨t125, A2, H⟩ := ob_ H
 try dsimp only at H
 by_cases c3 : t125.size + a0.size ≤ 9223372036854775807
 rotate_left
 ·rw [if_neg c3] at H
  exact absurd H (by simp)


 rw [if_pos c3] at H
 have c3b0 := eq_true c3
 have c3b1 : decide (t125.size + a0.size ≤ 9223372036854775807) = true := decide_eq_true c3
 try have c3b2 : (9223372036854775807 < t125.size + a0.size) = False := eq_false (Nat.not_lt.2 c3)
 clear c3
 obtain rfl := Option.some.inj H
 go_enter Try.func83, Try.ntmps83
 go_wp2_with (first | ((with_reducible refine gk_ 63 ?_); refine gl_ (some 6) Try.func63 #[.int .u64 (IntKind.u64.wrap ((a0.size : Int)))] ?_; (with_reducible refine (pack_Number.calls _ _ _ _ A2.out).mono ?_); rintro e w4 ⟨rfl, hb⟩; refine ⟨_, rfl, ?_⟩; replace HB := hB_ (bl_ HB) hb; (try clear hb)))
 go_ret
 exact ⟨fz_, bl_ HB⟩
def snap_Bytes.f (k : Nat) (a0_0 : Int) (a0_1 : Int) (l0_2 : List Int) (a0_3 : ByteArray) : Option (ByteArray) := (pack_Number.f k a0_0).bind fun t127 => ((pack_Number.f k a0_1).bind fun t128 => (if t127.size + t128.size ≤ 9223372036854775807 then ((wal_Ints.f k l0_2).bind fun t129 => (if (t127 ++ t128).size + t129.size ≤ 9223372036854775807 then ((pack_Text.f k a0_3).bind fun t130 => (if ((t127 ++ t128) ++ t129).size + t130.size ≤ 9223372036854775807 then (some (((t127 ++ t128) ++ t129) ++ t130)) else (none))) else (none))) else (none)))
theorem snap_Bytes.mono : ∀ a0 a1 a2 a3 k, LeO (snap_Bytes.f k a0 a1 a2 a3) (snap_Bytes.f (k + 1) a0 a1 a2 a3) := by
 intro a0 a1 a2 a3 k
 unfold snap_Bytes.f
 repeat' with_reducible first | apply pack_Number.mono | apply pack_Text.mono | apply wal_Ints.mono | apply LeO.refl | apply LeO.none | apply LeO.ite | refine LeO.bind ?_ (fun _ => ?_)
def snap_Bytes.T1 : Bool × List (List Nat × List Nat) := (true, [([], []), ([0], [0]), ([1], [1]), ([], []), ([3], [3]), ([4, 2], [4]), ([2, 5], [2, 5]), ([], []), ([7], [7]), ([8, 5], [8]), ([6, 9], [6, 9]), ([], []), ([11], [11]), ([12, 9], [12]), ([10, 13], [10, 13]), ([14, 13, 0, 1, 2, 3, 4, 5, 6, 7, 8, 9, 10, 11, 12, 13, 14], [14])])
def snap_Bytes.B1 : List Nat := [0, 1, 3, 0, 8, 31, 63, 0, 128, 447, 1023, 0, 2048, 7103, 16383, 32767]
theorem snap_Bytes.tab1 : rtab .any (opsOf Try.f51 1) = snap_Bytes.T1 := by kernel_rfl
theorem snap_Bytes.bits1 : waitsOk snap_Bytes.T1.2 snap_Bytes.B1 = true := by kernel_rfl
theorem snap_Bytes.calls (k : Nat) (a0_0 : Int) (a0_1 : Int) (A0_2 : Option Addr) (c0_2 : Nat) (l0_2 : List Int) (a0_3 : ByteArray) (r : ByteArray) (w : World) (hr0_2 : Kd.C (Kd.int .i64) w A0_2 l0_2.length l0_2) (hc0_2 : l0_2.length ≤ c0_2) (h : snap_Bytes.f k a0_0 a0_1 l0_2 a0_3 = some r) :
  Calls Try.prog 51 #[.agg #[.int .u64 a0_0, .int .u64 a0_1, .slice A0_2 l0_2.length c0_2, .string a0_3]] w fun e w' => e = .returned (.string r) ∧ Below w.heap.size w w' := by
 have hu_1 := Try.underlying48
 have HR_1 := a_ hr0_2
 have HC_1 := a_ hc0_2
 clear hr0_2 hc0_2
 have HB := a_ (Below.refl w.heap.size w)
 have H := h
 unfold snap_Bytes.f at H
 clear h
 obtain ⟨t_1, A_2, H⟩ := ob_ H
 try dsimp only at H
 obtain ⟨t_2, A_4, H⟩ := ob_ H
 try dsimp only at H
 replace H := iq_ H
 obtain ⟨c_1, H⟩ := H
 have c_2 := eq_true c_1
 have c_3 : decide (t_1.size + t_2.size ≤ 9223372036854775807) = true := decide_eq_true c_1
 try have c_4 : (9223372036854775807 < t_1.size + t_2.size) = False := eq_false (Nat.not_lt.2 c_1)
 clear c_1
 obtain ⟨t_3, A_6, H⟩ := ob_ H
 try dsimp only at H
 replace H := iq_ H
 obtain ⟨c_5, H⟩ := H
 have c_6 := eq_true c_5
 have c_7 : decide ((t_1 ++ t_2).size + t_3.size ≤ 9223372036854775807) = true := decide_eq_true c_5
 try have c_8 : (9223372036854775807 < (t_1 ++ t_2).size + t_3.size) = False := eq_false (Nat.not_lt.2 c_5)
 clear c_5
 obtain ⟨t_4, A_8, H⟩ := ob_ H
 try dsimp only at H
 replace H := iq_ H
 obtain ⟨c_9, H⟩ := H
 have c_10 := eq_true c_9
 have c_11 : decide (((t_1 ++ t_2) ++ t_3).size + t_4.size ≤ 9223372036854775807) = true := decide_eq_true c_9
 try have c_12 : (9223372036854775807 < ((t_1 ++ t_2) ++ t_3).size + t_4.size) = False := eq_false (Nat.not_lt.2 c_9)
 clear c_9
 obtain rfl := Option.some.inj H
 (try (have c_13 := c_6; simp only [ByteArray.size_extract, ByteArray.size_append, Nat.min_self, Nat.sub_zero] at c_13))
 (try (have c_14 := c_7; simp only [ByteArray.size_extract, ByteArray.size_append, Nat.min_self, Nat.sub_zero] at c_14))
 (try (have c_15 := c_8; simp only [ByteArray.size_extract, ByteArray.size_append, Nat.min_self, Nat.sub_zero] at c_15))
 (try (have c_16 := c_10; simp only [ByteArray.size_extract, ByteArray.size_append, Nat.min_self, Nat.sub_zero] at c_16))
 (try (have c_17 := c_11; simp only [ByteArray.size_extract, ByteArray.size_append, Nat.min_self, Nat.sub_zero] at c_17))
 (try (have c_18 := c_12; simp only [ByteArray.size_extract, ByteArray.size_append, Nat.min_self, Nat.sub_zero] at c_18))
 go_enter Try.func51, Try.ntmps51
 try go_wp2_with (first | ((with_reducible refine gd_ 1 ?_); refine bz_ 1 #[.int .u64 a0_0, .int .u64 a0_1, .slice A0_2 l0_2.length c0_2, .string a0_3] 48 ?_; intro gb_1 hg w_1 BK_1 hb; have GE_1 := a_ (bs_0 hg HB); replace HB := hB_ (bl_ HB) hb; clear hb hg))
 replace BK_1 := a_ (blk_drew BK_1.out)
 replace HB := a_ (below_drew1 HB.out)
 refine start_ (n := 16) (S := fun w' => w'.cell? ⟨gb_1, 0, none⟩ = some (.int .u64 a0_0) ∧ w'.cell? ⟨gb_1, 1, none⟩ = some (.int .u64 a0_1) ∧ w'.cell? ⟨gb_1, 2, none⟩ = some (.slice A0_2 l0_2.length c0_2) ∧ w'.cell? ⟨gb_1, 3, none⟩ = some (.string a0_3)) (ds := []) #[false, false, false, false, false, false, false, false, false, false, false, false, false, false, false, false] (by kernel_rfl) rfl rfl ⟨(blk_cell BK_1.out 0).trans rfl, (blk_cell BK_1.out 1).trans rfl, (blk_cell BK_1.out 2).trans rfl, (blk_cell BK_1.out 3).trans rfl⟩ (fun hHeld => ?_); refine with_tabW snap_Bytes.tab1 snap_Bytes.bits1 (fun HT_ HW_ => ?_)
 generalize w_1.drew = w_2 at BK_1 HB hHeld ⊢
 refine py_ HT_ 0 (some 3) ?_
 refine py_ HT_ 3 (some 6) ?_
 refine py_ HT_ 7 (some 10) ?_
 refine py_ HT_ 11 (some 14) ?_
 refine ty_ HT_ HW_ 1 (some 4) hHeld ?_
 refine ty_ HT_ HW_ 4 (some 7) hHeld ?_
 refine ty_ HT_ HW_ 8 (some 11) hHeld ?_
 refine ty_ HT_ HW_ 12 (some 15) hHeld ?_
 refine on_ HT_ 2 (some 5) (fun K hK => ?_)
 refine goes_ Try.func63 (by kernel_rfl) rfl #[.int .u64 a0_0] (by rfl) rfl rfl (ar_) ?_
 with_reducible refine (pack_Number.calls _ _ _ _ A_2.out).mono ?_
 rintro e w_3 ⟨rfl, hb⟩
 refine ⟨_, rfl, ?_⟩
 replace BK_1 := bB_ BK_1 hb
 replace HB := hB_ (bl_1 HB GE_1) hb
 clear hb
 refine hK.out _ _ ⟨(blk_cell BK_1.out 0).trans rfl, (blk_cell BK_1.out 1).trans rfl, (blk_cell BK_1.out 2).trans rfl, (blk_cell BK_1.out 3).trans rfl⟩ (fun hHeld => ?_)
 clear hK K
 refine nop_ ?_
 refine on_ HT_ 5 (some 8) (fun K hK => ?_)
 refine goes_ Try.func63 (by kernel_rfl) rfl #[.int .u64 a0_1] (by rfl) rfl rfl (ar_) ?_
 with_reducible refine (pack_Number.calls _ _ _ _ A_4.out).mono ?_
 rintro e w_4 ⟨rfl, hb⟩
 refine ⟨_, rfl, ?_⟩
 replace BK_1 := bB_ BK_1 hb
 replace HB := hB_ (bl_1 HB GE_1) hb
 clear hb
 refine hK.out _ _ ⟨(blk_cell BK_1.out 0).trans rfl, (blk_cell BK_1.out 1).trans rfl, (blk_cell BK_1.out 2).trans rfl, (blk_cell BK_1.out 3).trans rfl⟩ (fun hHeld => ?_)
 clear hK K
 refine nop_ ?_
 refine py_ HT_ 6 (some 9) ?_
 refine on_ HT_ 9 (some 12) (fun K hK => ?_)
 refine goes_ Try.func82 (by kernel_rfl) rfl #[.slice A0_2 l0_2.length c0_2] (by rfl) rfl rfl (ar_) ?_
 with_reducible refine (wal_Ints.calls _ _ _ _ _ _ ?side1 ?side2 A_6.out).mono ?_
 (case side1 => exact cl_ (Kd.C_below HR_1.out HB.out))
 (case side2 => exact HC_1.out)
 rintro e w_5 ⟨rfl, hb⟩
 refine ⟨_, rfl, ?_⟩
 replace BK_1 := bB_ BK_1 hb
 replace HB := hB_ (bl_1 HB GE_1) hb
 clear hb
 refine hK.out _ _ ⟨(blk_cell BK_1.out 0).trans rfl, (blk_cell BK_1.out 1).trans rfl, (blk_cell BK_1.out 2).trans rfl, (blk_cell BK_1.out 3).trans rfl⟩ (fun hHeld => ?_)
 clear hK K
 refine nop_ ?_
 refine py_ HT_ 10 (some 13) ?_
 refine on_ HT_ 13 (some 16) (fun K hK => ?_)
 refine goes_ Try.func83 (by kernel_rfl) rfl #[.string a0_3] (by rfl) rfl rfl (ar_) ?_
 with_reducible refine (pack_Text.calls _ _ _ _ A_8.out).mono ?_
 rintro e w_6 ⟨rfl, hb⟩
 refine ⟨_, rfl, ?_⟩
 replace BK_1 := bB_ BK_1 hb
 replace HB := hB_ (bl_1 HB GE_1) hb
 clear hb
 refine hK.out _ _ ⟨(blk_cell BK_1.out 0).trans rfl, (blk_cell BK_1.out 1).trans rfl, (blk_cell BK_1.out 2).trans rfl, (blk_cell BK_1.out 3).trans rfl⟩ (fun hHeld => ?_)
 clear hK K
 refine nop_ ?_
 refine py_ HT_ 14 (some 17) ?_
 refine py_ HT_ 15 (some 2) ?_
 refine done_ (done_of HT_.out (by kernel_rfl)) ?_
 try go_wp2
 go_ret
 exact ⟨fz_, bl_1 HB GE_1⟩

def snap_Encode.f (k : Nat) (a0_0 : Int) (a0_1 : Int) (l0_2 : List Int) (a0_3 : ByteArray) : Option (ByteArray × Int) := (snap_Check.f k a0_0 a0_1 l0_2 a0_3).bind fun t132 => (if t132 = 0 then ((snap_Bytes.f k a0_0 a0_1 l0_2 a0_3).bind fun t133 => (some (t133, 0))) else (some ((⟨#[]⟩ : ByteArray), t132)))
theorem snap_Encode.mono : ∀ a0 a1 a2 a3 k, LeO (snap_Encode.f k a0 a1 a2 a3) (snap_Encode.f (k + 1) a0 a1 a2 a3) := by
 intro a0 a1 a2 a3 k
 unfold snap_Encode.f
 repeat' with_reducible first | apply snap_Bytes.mono | apply snap_Check.mono | apply LeO.refl | apply LeO.none | apply LeO.ite | refine LeO.bind ?_ (fun _ => ?_)
theorem snap_Encode.calls (k : Nat) (a0_0 : Int) (a0_1 : Int) (A0_2 : Option Addr) (c0_2 : Nat) (l0_2 : List Int) (a0_3 : ByteArray) (r1 : ByteArray) (r2 : Int) (w : World) (hr0_2 : Kd.C (Kd.int .i64) w A0_2 l0_2.length l0_2) (hc0_2 : l0_2.length ≤ c0_2) (h : snap_Encode.f k a0_0 a0_1 l0_2 a0_3 = some (r1, r2)) :
  Calls Try.prog 25 #[.agg #[.int .u64 a0_0, .int .u64 a0_1, .slice A0_2 l0_2.length c0_2, .string a0_3]] w fun e w' => e = .returned (.tuple #[.string r1, .int .i64 r2]) ∧ Below w.heap.size w w' := by
 have hu48 := Try.underlying48
 have HR0_2 := a_ hr0_2
 have HC0_2 := a_ hc0_2
 clear hr0_2 hc0_2
 have HB := a_ (Below.refl w.heap.size w)
 have H := h
 unfold snap_Encode.f at H
 clear h
 obtain ⟨t132, A2, H⟩ := ob_ H
 try dsimp only at H
 by_cases c3 : t132 = 0
 rotate_left
 ·rw [if_neg c3] at H
  obtain ⟨c3b0, c3b1⟩ := bn_ c3
  obtain ⟨rfl, rfl⟩ := so2_ H
  go_enter Try.func25, Try.ntmps25
  go_wp2_with (first | ((with_reducible refine gd_ 1 ?_); refine bz_ 1 #[.int .u64 a0_0, .int .u64 a0_1, .slice A0_2 l0_2.length c0_2, .string a0_3] 48 ?_; intro gb131 hg w10 BK131 hb; have GE131 := a_ (bs_0 hg HB); replace HB := hB_ (bl_ HB) hb; clear hb hg; obtain ⟨hcz11_0, hcz11_1, hcz11_2, hcz11_3, hfz11_0, hfz11_1, hfz11_2, hfz11_3⟩ := c4_ BK131) | ((with_reducible refine gk_ 31 ?_); refine gl_ (some 6) Try.func31 #[.agg #[.int .u64 a0_0, .int .u64 a0_1, .slice A0_2 l0_2.length c0_2, .string a0_3]] ?_; (with_reducible refine (snap_Check.calls _ _ _ _ _ _ _ _ _ ?side1 ?side2 A2.out).mono ?_); (case side1 => exact cl_ (Kd.C_below HR0_2.out HB.out)); (case side2 => exact HC0_2.out); rintro e w12 ⟨rfl, hb⟩; refine ⟨_, rfl, ?_⟩; replace BK131 := bB_ BK131 hb; replace HB := hB_ (bl_1 HB GE131) hb; (try clear hb)))
  go_ret2
  exact ⟨fz_, bl_1 HB GE131⟩


 rw [if_pos c3] at H
 obtain ⟨c3b0, c3b1⟩ := be_ c3
 clear c3
 obtain ⟨t133, A4, H⟩ := ob_ H
 try dsimp only at H
 obtain ⟨rfl, rfl⟩ := so2_ H
 go_enter Try.func25, Try.ntmps25
 go_wp2_with (first | ((with_reducible refine gd_ 1 ?_); refine bz_ 1 #[.int .u64 a0_0, .int .u64 a0_1, .slice A0_2 l0_2.length c0_2, .string a0_3] 48 ?_; intro gb131 hg w5 BK131 hb; have GE131 := a_ (bs_0 hg HB); replace HB := hB_ (bl_ HB) hb; clear hb hg; obtain ⟨hcz6_0, hcz6_1, hcz6_2, hcz6_3, hfz6_0, hfz6_1, hfz6_2, hfz6_3⟩ := c4_ BK131) | ((with_reducible refine gk_ 31 ?_); refine gl_ (some 6) Try.func31 #[.agg #[.int .u64 a0_0, .int .u64 a0_1, .slice A0_2 l0_2.length c0_2, .string a0_3]] ?_; (with_reducible refine (snap_Check.calls _ _ _ _ _ _ _ _ _ ?side1 ?side2 A2.out).mono ?_); (case side1 => exact cl_ (Kd.C_below HR0_2.out HB.out)); (case side2 => exact HC0_2.out); rintro e w7 ⟨rfl, hb⟩; refine ⟨_, rfl, ?_⟩; replace BK131 := bB_ BK131 hb; replace HB := hB_ (bl_1 HB GE131) hb; (try clear hb); obtain ⟨hcz8_0, hcz8_1, hcz8_2, hcz8_3, hfz8_0, hfz8_1, hfz8_2, hfz8_3⟩ := c4_ BK131) | ((with_reducible refine gk_ 51 ?_); refine gl_ (some 11) Try.func51 #[.agg #[.int .u64 a0_0, .int .u64 a0_1, .slice A0_2 l0_2.length c0_2, .string a0_3]] ?_; (with_reducible refine (snap_Bytes.calls _ _ _ _ _ _ _ _ _ ?side1 ?side2 A4.out).mono ?_); (case side1 => exact cl_ (Kd.C_below HR0_2.out HB.out)); (case side2 => exact HC0_2.out); rintro e w9 ⟨rfl, hb⟩; refine ⟨_, rfl, ?_⟩; replace BK131 := bB_ BK131 hb; replace HB := hB_ (bl_1 HB GE131) hb; (try clear hb)))
 go_ret2
 exact ⟨fz_, bl_1 HB GE131⟩
end Go.Proofs.Ytpigjmjbfpipnaa.PF
