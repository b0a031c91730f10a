-- Written for this claim by a program of this session. Lean checks it.
import Derived.Test.YtpdacpopkegecaaPAx0
import Derived.Test.YtpdacpopkegecaaPAx8
import Derived.Test.YtpdacpopkegecaaPAx14
namespace Go.Proofs.Ytpdacpopkegecaa.PA
open Go.RowKit Go.Proofs.YtpdacpopkegecaaW.PrintWords Go.Proofs.YtpdacpopkegecaaW.PrintLast Go.Proofs.YtpdacpopkegecaaW.PrintMore Go.Proofs.Ytpdacpopkegecaa.Sh Go.Proofs.Ytpdacpopkegecaa.Op
attribute [local go_sem] max2_int min2_int max_two min_two max_three min_three max_four min_four   -- for this text's walks alone
set_option linter.unusedVariables false
set_option linter.unusedSimpArgs false

/-! ### gafferlaw02_DiskFused: function 10 -/
mutual
def gafferlaw02_DiskFused.l0 : Nat → Int → Int → Int → List (S35) → Bool → Int → Option (Bool)
 | 0, _, _, _, _, _, _ => none
 | k + 1, x0, x1, x6, x548000, x548001, x548002 => if x6 < x1 then (gafferlaw02_DiskFused.j1 k x0 x1 x6 (decide (x6 < 300)) x548000 x548001 x548002) else (gafferlaw02_DiskFused.j1 k x0 x1 x6 false x548000 x548001 x548002)
def gafferlaw02_DiskFused.j1 : Nat → Int → Int → Int → Bool → List (S35) → Bool → Int → Option (Bool)
 | 0, _, _, _, _, _, _, _ => none
 | k + 1, x0, x1, x6, x22, x548000, x548001, x548002 => if x22 = true then ((disk_Add.f k x548000 x548001 x548002 (⟨#[97]⟩ : ByteArray) (⟨#[120]⟩ : ByteArray)).bind fun bt548 => (if ((bt548.2.2.2 == 0) != (decide (x6 < (wrap64 (x0))))) = true then (some false) else (if (bt548.2.1 != (decide (x6 ≥ (wrap64 (x0))))) = true then (some false) else (gafferlaw02_DiskFused.l0 k x0 x1 (wrap64 (x6 + 1)) bt548.1 bt548.2.1 bt548.2.2.1)))) else ((disk_Names.f k x548000 x548001 x548002 (⟨#[]⟩ : ByteArray)).bind fun bt555 => (if ((bt555.2 == 8) == x548001) = true then (if x548001 = true then (some true) else ((gafferref02_Check.f k x548000 x548001 x548002).bind fun t559 => (some (t559 == 0)))) else (some false)))
end
def gafferlaw02_DiskFused.f (k : Nat) (a0 : Int) (a1 : Int) : Option (Bool) := (gafferlaw02_lives.f k).bind fun t546 => (if t546 = true then (gafferlaw02_DiskFused.l0 k a0 a1 0 ([] : List (S35)) false (wrap64 (a0))) else (some false))
theorem gafferlaw02_DiskFused.mono_l : ∀ k, (∀ y0 y1 y2 y3 y4 y5, LeO (gafferlaw02_DiskFused.l0 k y0 y1 y2 y3 y4 y5) (gafferlaw02_DiskFused.l0 (k + 1) y0 y1 y2 y3 y4 y5)) ∧ (∀ y0 y1 y2 y3 y4 y5 y6, LeO (gafferlaw02_DiskFused.j1 k y0 y1 y2 y3 y4 y5 y6) (gafferlaw02_DiskFused.j1 (k + 1) y0 y1 y2 y3 y4 y5 y6))
 | 0 => ⟨fun _ _ _ _ _ _ r h => by simp [gafferlaw02_DiskFused.l0] at h, fun _ _ _ _ _ _ _ r h => by simp [gafferlaw02_DiskFused.j1] at h⟩
 | k + 1 => by
  obtain ⟨ih0, ih1⟩ := gafferlaw02_DiskFused.mono_l k
  refine ⟨?_, ?_⟩
  ·intro y0 y1 y2 y3 y4 y5
   unfold gafferlaw02_DiskFused.l0
   repeat' first
   | (with_reducible exact ih0 _ _ _ _ _ _)
   | (with_reducible exact ih1 _ _ _ _ _ _ _)
   | (with_reducible exact disk_Add.mono _ _ _ _ _ _)
   | (with_reducible exact disk_Names.mono _ _ _ _ _)
   | (with_reducible exact gafferlaw02_lives.mono _)
   | (with_reducible exact gafferref02_Check.mono _ _ _ _)
   | (with_reducible exact LeO.refl _)
   | (with_reducible exact LeO.none _)
   | (with_reducible refine LeO.ite ?_ ?_)
   | (with_reducible refine LeO.bind ?_ (fun _ => ?_))
   | exact ih0 _ _ _ _ _ _
   | exact ih1 _ _ _ _ _ _ _
   | exact disk_Add.mono _ _ _ _ _ _
   | exact disk_Names.mono _ _ _ _ _
   | exact gafferlaw02_lives.mono _
   | exact gafferref02_Check.mono _ _ _ _
   | exact LeO.none _
   | refine LeO.ite ?_ ?_
   | refine LeO.bind ?_ (fun _ => ?_)
  ·intro y0 y1 y2 y3 y4 y5 y6
   unfold gafferlaw02_DiskFused.j1
   repeat' first
   | (with_reducible exact ih0 _ _ _ _ _ _)
   | (with_reducible exact ih1 _ _ _ _ _ _ _)
   | (with_reducible exact disk_Add.mono _ _ _ _ _ _)
   | (with_reducible exact disk_Names.mono _ _ _ _ _)
   | (with_reducible exact gafferlaw02_lives.mono _)
   | (with_reducible exact gafferref02_Check.mono _ _ _ _)
   | (with_reducible exact LeO.refl _)
   | (with_reducible exact LeO.none _)
   | (with_reducible refine LeO.ite ?_ ?_)
   | (with_reducible refine LeO.bind ?_ (fun _ => ?_))
   | exact ih0 _ _ _ _ _ _
   | exact ih1 _ _ _ _ _ _ _
   | exact disk_Add.mono _ _ _ _ _ _
   | exact disk_Names.mono _ _ _ _ _
   | exact gafferlaw02_lives.mono _
   | exact gafferref02_Check.mono _ _ _ _
   | exact LeO.none _
   | refine LeO.ite ?_ ?_
   | refine LeO.bind ?_ (fun _ => ?_)
theorem gafferlaw02_DiskFused.mono : ∀ a0 a1 k, LeO (gafferlaw02_DiskFused.f k a0 a1) (gafferlaw02_DiskFused.f (k + 1) a0 a1) := by
 intro a0 a1 k
 obtain ⟨ih0, ih1⟩ := gafferlaw02_DiskFused.mono_l k
 unfold gafferlaw02_DiskFused.f
 repeat' first
   | (with_reducible exact ih0 _ _ _ _ _ _)
   | (with_reducible exact ih1 _ _ _ _ _ _ _)
   | (with_reducible exact disk_Add.mono _ _ _ _ _ _)
   | (with_reducible exact disk_Names.mono _ _ _ _ _)
   | (with_reducible exact gafferlaw02_lives.mono _)
   | (with_reducible exact gafferref02_Check.mono _ _ _ _)
   | (with_reducible exact LeO.refl _)
   | (with_reducible exact LeO.none _)
   | (with_reducible refine LeO.ite ?_ ?_)
   | (with_reducible refine LeO.bind ?_ (fun _ => ?_))
   | exact ih0 _ _ _ _ _ _
   | exact ih1 _ _ _ _ _ _ _
   | exact disk_Add.mono _ _ _ _ _ _
   | exact disk_Names.mono _ _ _ _ _
   | exact gafferlaw02_lives.mono _
   | exact gafferref02_Check.mono _ _ _ _
   | exact LeO.none _
   | refine LeO.ite ?_ ?_
   | refine LeO.bind ?_ (fun _ => ?_)
set_option maxHeartbeats 80000000 in
set_option maxRecDepth 100000 in
theorem gafferlaw02_DiskFused.calls (k : Nat) (a0 : Int) (a1 : Int) (r : Bool) (w : World) (h : gafferlaw02_DiskFused.f k a0 a1 = some r) (hr : r = true) :
  Calls Try.prog 10 #[.int .u8 a0, .int .i64 a1] w fun e w' => e = .returned (.bool r) ∧ Below w.heap.size w w' := by
 have hu24 := Try.underlying24
 have HB := Aside0.mk (Below.refl w.heap.size w)
 have H : ((gafferlaw02_lives.f k).bind fun t546 => (if t546 = true then (gafferlaw02_DiskFused.l0 k a0 a1 0 ([] : List (S35)) false (wrap64 (a0))) else (some false))) = some r := h
 clear h
 replace H := Option.bind_eq_some_iff.mp H
 obtain ⟨t546, A30, H⟩ := H
 replace H : (if t546 = true then (gafferlaw02_DiskFused.l0 k a0 a1 0 ([] : List (S35)) false (wrap64 (a0))) else (some false)) = some r := H
 have A3 := Aside0.mk A30
 clear A30
 by_cases c4 : t546 = true
 ·subst c4
  have H1 : (gafferlaw02_DiskFused.l0 k a0 a1 0 ([] : List (S35)) false (wrap64 (a0))) = some r := by rw [if_pos rfl] at H; exact H
  clear H
  have H := H1
  clear H1
  have H' := Aside0.mk H
  clear H
  go_enter Try.func10, Try.ntmps10
  go_wp2_with (first | ((with_reducible refine gate_callee (f := 14) rfl ?_); refine goesL_ (some 11) rfl rfl Try.func14 (by kernel_rfl) rfl #[] rfl (ar_) ?_; (with_reducible refine (gafferlaw02_lives.calls k  true _ A3.out).mono ?_); rintro e w5 ⟨rfl, hb⟩; refine ⟨_, rfl, ?_⟩; replace HB := Aside0.mk (below_step (bl_ HB) hb); (try clear hb); (try clear hb2); (try clear hk); (try clear hi)) | ((with_reducible refine gate_dst (N := 5) rfl ?_); refine box_event ?hg (N := 5) ?hd (cs := #[.slice none 0 0, .bool false, .int .i64 0]) (t := 24) ?hr ?_; (case hd => rfl); (case hg => rfl); (case hr => first | (go_simp; done) | (go_simp; rfl)); intro gb547 hg w6 hbox hb; have BK547 := Aside0.mk (hbox); have GW547 := Aside0.mk (bs_0 hg HB); have GE547 := Aside0.mk (bs_0 hg HB); replace HB := Aside0.mk (below_step (bl_ HB) hb); clear hb hbox hg; obtain ⟨hcz7_0, hcz7_1, hcz7_2, hfz7_0, hfz7_1, hfz7_2⟩ := c3_ BK547))
  go_loopg [6] k (fun kq v6 w' => ∃ (x6_1 : Int) (x548000_1 : List (S35)) (x548001_1 : Bool) (x548002_1 : Int) (u548000 : Value), v6 = .int .i64 x6_1 ∧ Aside0 (gafferlaw02_DiskFused.l0 kq a0 a1 x6_1 x548000_1 x548001_1 x548002_1 = some r) ∧ Aside0 (kq ≤ k) ∧ Aside0 (Kd.R k35 35 w' w.heap.size (fun _ => True) u548000 x548000_1) ∧ Aside0 (w'.heap[gb547]? = some (.cells #[u548000, .bool x548001_1, .int .i64 x548002_1] 24 (0, 0))) ∧ Aside0 (Below w.heap.size w w'))
  case atStart => exact ⟨(0), (([] : List (S35))), (false), (wrap64 (a0)), (.slice none 0 0), (by first | rfl | (simp; done) | (simp [*]; done)), H', ⟨Nat.le_refl _⟩, ⟨by first | exact Kd.R_nil _ _ _ _ _ | exact Kd.N_nil _ _ _ _ _ | exact Kd.V_nil _ _ _ _ _ | exact Kd.Q_nil _ _ _ _ _ | exact Kd.S_nil _ _ _ _ _⟩, ⟨by (with_reducible repeat (first | refine blk_drewN ?_ _ | refine blk_drew ?_ | refine blk_alloc ?_ _)); refine blk_put (cs := #[.slice none 0 0, .bool false, .int .i64 0]) ?_ 2 _ rfl; (with_reducible repeat (first | refine blk_drewN ?_ _ | refine blk_drew ?_ | refine blk_alloc ?_ _)); refine blk_put (cs := #[.slice none 0 0, .bool false, .int .i64 0]) ?_ 1 _ rfl; (with_reducible repeat (first | refine blk_drewN ?_ _ | refine blk_drew ?_ | refine blk_alloc ?_ _)); refine blk_put (cs := #[.slice none 0 0, .bool false, .int .i64 0]) ?_ 0 _ rfl; (with_reducible repeat (first | refine blk_drewN ?_ _ | refine blk_drew ?_ | refine blk_alloc ?_ _)); exact BK547.out⟩, ⟨bl_1 HB GE547⟩⟩
  case round =>
   clear H'
   try clear c1
   try clear p2
   try clear c4
   try clear p6
   try clear hcz7_0
   try clear hcz7_1
   try clear hcz7_2
   try clear hfz7_0
   try clear hfz7_1
   try clear hfz7_2
   obtain ⟨x6_1, x548000_1, x548001_1, x548002_1, u548000, rfl, HA, HK1, HO_548000, BK547, HB⟩ := hrel
   cases gk with
   | zero => exact absurd HA.out (by simp [gafferlaw02_DiskFused.l0])
   | succ k1 =>
    have H := HA.out
    clear HA
    simp only [gafferlaw02_DiskFused.l0] at H
    have HC8 := Aside0.mk H
    clear H
    go_upto_region 5 with (fail)
    go_cut [22] (fun v22 wc => ∃ (kq : Nat) (x22_7 : Bool), v22 = .bool x22_7 ∧ Aside0 (gafferlaw02_DiskFused.j1 kq a0 a1 x6_1 x22_7 x548000_1 x548001_1 x548002_1 = some r) ∧ Aside0 (kq ≤ k1) ∧ Aside0 (Kd.R k35 35 wc w.heap.size (fun _ => True) u548000 x548000_1) ∧ Aside0 (wc.heap[gb547]? = some (.cells #[u548000, .bool x548001_1, .int .i64 x548002_1] 24 (0, 0))) ∧ Aside0 (Below w.heap.size w wc))
    case first =>
     have H := HC8.out
     clear HC8
     by_cases c9 : x6_1 < a1
     ·rw [if_pos c9] at H
      have c9b0 : decide (x6_1 < a1) = true := decide_eq_true c9
      clear c9
      (first | rw [c9b0] | (simp only [i64_w, i32_w]; rw [c9b0]) | skip)
      have H' := Aside0.mk H
      clear H
      go_wp2
      go_meet
      case rel => exact ⟨_, (decide (x6_1 < 300)), (by first | rfl | (simp; done) | (simp [*]; done)), H', ⟨by have := HK1.out; first | omega | exact Nat.le_refl _⟩, ⟨by (with_reducible repeat (first | apply Kd.R_alloc | apply Kd.R_drewN | apply Kd.R_drew)); exact HO_548000.out⟩, ⟨bk_ BK547⟩, ⟨bl_1 HB GE547⟩⟩
     ·rw [if_neg c9] at H
      have c9b0 : decide (x6_1 < a1) = false := decide_eq_false c9
      clear c9
      (first | rw [c9b0] | (simp only [i64_w, i32_w]; rw [c9b0]) | skip)
      have H' := Aside0.mk H
      clear H
      go_wp2
      go_meet
      case rel => exact ⟨_, (false), (by first | rfl | (simp; done) | (simp [*]; done)), H', ⟨by have := HK1.out; first | omega | exact Nat.le_refl _⟩, ⟨by (with_reducible repeat (first | apply Kd.R_alloc | apply Kd.R_drewN | apply Kd.R_drew)); exact HO_548000.out⟩, ⟨bk_ BK547⟩, ⟨bl_1 HB GE547⟩⟩
    case rest =>
     clear HC8
     try clear c1
     try clear p2
     try clear c4
     try clear p6
     try clear c9
     try clear c9b0
     try clear hcz7_0
     try clear hcz7_1
     try clear hcz7_2
     try clear hfz7_0
     try clear hfz7_1
     try clear hfz7_2
     try clear p2
     try clear p6
     obtain ⟨kq, x22_7, rfl, HA, HJ7, HO_548000, BK547, HB⟩ := hcut
     cases kq with
     | zero => exact absurd HA.out (by simp [gafferlaw02_DiskFused.j1])
     | succ kj7 =>
      have H := HA.out
      clear HA
      simp only [gafferlaw02_DiskFused.j1] at H
      by_cases c10 : x22_7 = true
      ·subst c10
       have H1 : ((disk_Add.f kj7 x548000_1 x548001_1 x548002_1 (⟨#[97]⟩ : ByteArray) (⟨#[120]⟩ : ByteArray)).bind fun bt548 => (if ((bt548.2.2.2 == 0) != (decide (x6_1 < (wrap64 (a0))))) = true then (some false) else (if (bt548.2.1 != (decide (x6_1 ≥ (wrap64 (a0))))) = true then (some false) else (gafferlaw02_DiskFused.l0 kj7 a0 a1 (wrap64 (x6_1 + 1)) bt548.1 bt548.2.1 bt548.2.2.1)))) = some r := by rw [if_pos rfl] at H; exact H
       clear H
       have H := H1
       clear H1
       replace H := Option.bind_eq_some_iff.mp H
       obtain ⟨⟨t548, t551, t552, t553⟩, A110, H⟩ := H
       replace H : (if ((t553 == 0) != (decide (x6_1 < (wrap64 (a0))))) = true then (some false) else (if (t551 != (decide (x6_1 ≥ (wrap64 (a0))))) = true then (some false) else (gafferlaw02_DiskFused.l0 kj7 a0 a1 (wrap64 (x6_1 + 1)) t548 t551 t552))) = some r := H
       have A11 := Aside0.mk A110
       clear A110
       by_cases c12 : ((t553 == 0) != (decide (x6_1 < (wrap64 (a0))))) = true
       ·rw [if_pos c12] at H
        have c12b0 : ((t553 == 0) != (decide (x6_1 < (wrap64 (a0))))) = true := c12
        (try (have c12b1 : decide ((t553 == 0) = (decide (x6_1 < (wrap64 (a0))))) = false := by simpa using c12))
        (try (have c12b2 : ((t553 == 0) == (decide (x6_1 < (wrap64 (a0))))) = false := by simpa using c12))
        (try (have c12b3 : ¬ ((t553 == 0) = (decide (x6_1 < (wrap64 (a0))))) := by simpa using c12))
        clear c12
        exact absurd (H.trans (congrArg some hr)) (by simp)
       ·rw [if_neg c12] at H
        have c12b0 : ((t553 == 0) != (decide (x6_1 < (wrap64 (a0))))) = false := by simpa using c12
        (try (have c12b1 : decide ((t553 == 0) = (decide (x6_1 < (wrap64 (a0))))) = true := by simpa using c12))
        (try (have c12b2 : ((t553 == 0) == (decide (x6_1 < (wrap64 (a0))))) = true := by simpa using c12))
        clear c12
        by_cases c13 : (t551 != (decide (x6_1 ≥ (wrap64 (a0))))) = true
        ·rw [if_pos c13] at H
         have c13b0 : (t551 != (decide (x6_1 ≥ (wrap64 (a0))))) = true := c13
         (try (have c13b1 : decide (t551 = (decide (x6_1 ≥ (wrap64 (a0))))) = false := by simpa using c13))
         (try (have c13b2 : (t551 == (decide (x6_1 ≥ (wrap64 (a0))))) = false := by simpa using c13))
         (try (have c13b3 : ¬ (t551 = (decide (x6_1 ≥ (wrap64 (a0))))) := by simpa using c13))
         clear c13
         exact absurd (H.trans (congrArg some hr)) (by simp)
        ·rw [if_neg c13] at H
         have c13b0 : (t551 != (decide (x6_1 ≥ (wrap64 (a0))))) = false := by simpa using c13
         (try (have c13b1 : decide (t551 = (decide (x6_1 ≥ (wrap64 (a0))))) = true := by simpa using c13))
         (try (have c13b2 : (t551 == (decide (x6_1 ≥ (wrap64 (a0))))) = true := by simpa using c13))
         clear c13
         have H' := Aside0.mk H
         clear H
         obtain ⟨hcz14_0, hcz14_1, hcz14_2, hfz14_0, hfz14_1, hfz14_2⟩ := c3_ BK547
         obtain ⟨Ao15, co15, eo15⟩ := Kd.R_slice HO_548000.out
         subst eo15
         go_wp2_with (first | ((with_reducible refine gate_callee (f := 18) rfl ?_); refine goesL_ (some 27) rfl rfl Try.func18 (by kernel_rfl) rfl #[.agg #[.slice Ao15 x548000_1.length co15, .bool x548001_1, .int .i64 x548002_1], .string (⟨#[97]⟩ : ByteArray), .string (⟨#[120]⟩ : ByteArray)] rfl (ar_) ?_; (with_reducible refine (disk_Add.calls kj7 _ _ x548000_1 x548001_1 x548002_1 (⟨#[97]⟩ : ByteArray) (⟨#[120]⟩ : ByteArray) t548 t551 t552 t553 _ ?side1 ?side2 A11.out).mono ?_); (case side1 => repeat (first | exact (Kd.R_reads' HO_548000.out).2.2 | (with_reducible refine Kd.C_alloc ?_ _) | (with_reducible refine Kd.C_drewN ?_ _) | (with_reducible refine Kd.C_drew ?_))); (case side2 => exact (Kd.R_reads' HO_548000.out).2.1); rintro e w16 ⟨v549, rfl, ho0, hb⟩; refine ⟨_, rfl, ?_⟩; have HO550 := Aside0.mk (Kd.R_lower (Kd.R_new' ho0 (Kd.R_lt (by (with_reducible repeat (first | apply Kd.R_alloc | apply Kd.R_drewN | apply Kd.R_drew)); exact HO_548000.out))) (below_size (bl_1 HB GE547))); replace HO_548000 := Aside0.mk (Kd.R_elder' (by (with_reducible repeat (first | apply Kd.R_alloc | apply Kd.R_drewN | apply Kd.R_drew)); exact HO_548000.out) (Kd.R_base ho0) hb); replace BK547 := Aside0.mk (bb_ BK547 hb); replace HB := Aside0.mk (below_step (bl_1 HB GE547) hb); (try clear hb); (try clear hb2); (try clear hk); (try clear hi); (try clear ho0)) | ((with_reducible refine gate_dst (N := 7) rfl ?_); refine box_event ?hg (N := 7) ?hd (cs := #[.slice none 0 0, .bool false, .int .i64 0]) (t := 24) ?hr ?_; (case hd => rfl); (case hg => rfl); (case hr => first | (go_simp; done) | (go_simp; rfl)); intro gb554 hg w17 hbox hb; replace HO_548000 := Aside0.mk (Kd.R_below (by (with_reducible repeat (first | apply Kd.R_alloc | apply Kd.R_drewN | apply Kd.R_drew)); exact HO_548000.out) hb); replace HO550 := Aside0.mk (Kd.R_below (by (with_reducible repeat (first | apply Kd.R_alloc | apply Kd.R_drewN | apply Kd.R_drew)); exact HO550.out) hb); have BK554 := Aside0.mk (hbox); have GW554 := Aside0.mk (bs_1 hg HB GE547); have GE554 := Aside0.mk (bs_1 hg HB GE547); replace HB := Aside0.mk (below_step (bl_1 HB GE547) hb); have NB547_554 := Aside0.mk (nb_ hg BK547); have NB554_547 := Aside0.mk (nc_ hg BK547); replace BK547 := Aside0.mk (bb_ BK547 hb); clear hb hbox hg; obtain ⟨Ao18, co18, eo18⟩ := Kd.R_slice HO550.out; subst eo18; have hnb19 := NB554_547.out; have hnc19 := NB547_554.out; obtain ⟨hcz20_0, hcz20_1, hcz20_2, hfz20_0, hfz20_1, hfz20_2⟩ := c3_ BK554; obtain ⟨hcz21_0, hcz21_1, hcz21_2, hfz21_0, hfz21_1, hfz21_2⟩ := c3_ BK547))
         go_roundg kj7
         case measure => have := HK1.out; have := HJ7.out; omega
         case rel => exact ⟨(wrap64 (x6_1 + 1)), (t548), (t551), (t552), (.slice Ao18 t548.length co18), (by first | rfl | (simp; done) | (simp [*]; done)), H', ⟨by have := HK1.out; have := HJ7.out; omega⟩, ⟨by (with_reducible repeat (first | apply Kd.R_alloc | apply Kd.R_drewN | apply Kd.R_drew)); exact Kd.R_mono (Kd.R_far (p := ⟨gb547, 2, none⟩) (Kd.R_far (p := ⟨gb547, 1, none⟩) (Kd.R_far (p := ⟨gb547, 0, none⟩) (Kd.R_far (p := ⟨gb554, 2, none⟩) (Kd.R_far (p := ⟨gb554, 1, none⟩) (Kd.R_far (p := ⟨gb554, 0, none⟩) (Kd.R_types (Kd.R_types HO550.out BK554.out (by decide)) BK547.out (by decide)) (fun _ hk => hk.1.2) (.slice Ao18 t548.length co18)) (fun _ hk => hk.1.2) (.bool t551)) (fun _ hk => hk.1.2) (.int .i64 t552)) (fun _ hk => hk.2) (.slice Ao18 t548.length co18)) (fun _ hk => hk.2) (.bool t551)) (fun _ hk => hk.2) (.int .i64 t552)) (fun _ hk => trivial)⟩, ⟨by (with_reducible repeat (first | refine blk_drewN ?_ _ | refine blk_drew ?_ | refine blk_alloc ?_ _)); refine blk_put (cs := #[.slice Ao18 t548.length co18, .bool t551, .int .i64 x548002_1]) ?_ 2 _ rfl; (with_reducible repeat (first | refine blk_drewN ?_ _ | refine blk_drew ?_ | refine blk_alloc ?_ _)); refine blk_put (cs := #[.slice Ao18 t548.length co18, .bool x548001_1, .int .i64 x548002_1]) ?_ 1 _ rfl; (with_reducible repeat (first | refine blk_drewN ?_ _ | refine blk_drew ?_ | refine blk_alloc ?_ _)); refine blk_put (cs := #[.slice Ao15 x548000_1.length co15, .bool x548001_1, .int .i64 x548002_1]) ?_ 0 _ rfl; (with_reducible repeat (first | refine blk_drewN ?_ _ | refine blk_drew ?_ | refine blk_alloc ?_ _)); refine blk_far ?_ NB547_554.out _; (with_reducible repeat (first | refine blk_drewN ?_ _ | refine blk_drew ?_ | refine blk_alloc ?_ _)); refine blk_far ?_ NB547_554.out _; (with_reducible repeat (first | refine blk_drewN ?_ _ | refine blk_drew ?_ | refine blk_alloc ?_ _)); refine blk_far ?_ NB547_554.out _; (with_reducible repeat (first | refine blk_drewN ?_ _ | refine blk_drew ?_ | refine blk_alloc ?_ _)); exact BK547.out⟩, ⟨bl_2 HB GE547 GE554⟩⟩
      ·replace c10 := Bool.eq_false_iff.mpr c10
       subst c10
       have H1 : ((disk_Names.f kj7 x548000_1 x548001_1 x548002_1 (⟨#[]⟩ : ByteArray)).bind fun bt555 => (if ((bt555.2 == 8) == x548001_1) = true then (if x548001_1 = true then (some true) else ((gafferref02_Check.f kj7 x548000_1 x548001_1 x548002_1).bind fun t559 => (some (t559 == 0)))) else (some false))) = some r := by rw [if_neg (show ¬ (false = true) by decide)] at H; exact H
       clear H
       have H := H1
       clear H1
       replace H := Option.bind_eq_some_iff.mp H
       obtain ⟨⟨t555, t558⟩, A220, H⟩ := H
       replace H : (if ((t558 == 8) == x548001_1) = true then (if x548001_1 = true then (some true) else ((gafferref02_Check.f kj7 x548000_1 x548001_1 x548002_1).bind fun t559 => (some (t559 == 0)))) else (some false)) = some r := H
       have A22 := Aside0.mk A220
       clear A220
       by_cases c23 : ((t558 == 8) == x548001_1) = true
       ·rw [if_pos c23] at H
        have c23b0 : ((t558 == 8) == x548001_1) = true := c23
        (try (have c23b1 : decide ((t558 == 8) = x548001_1) = true := by simpa using c23))
        (try (have c23b2 : ((t558 == 8) == x548001_1) = true := by simpa using c23))
        clear c23
        by_cases c24 : x548001_1 = true
        ·subst c24
         have H1 : (some true) = some r := by rw [if_pos rfl] at H; exact H
         clear H
         have H := H1
         clear H1
         obtain rfl := Option.some.inj H
         obtain ⟨hcz25_0, hcz25_1, hcz25_2, hfz25_0, hfz25_1, hfz25_2⟩ := c3_ BK547
         obtain ⟨Ao26, co26, eo26⟩ := Kd.R_slice HO_548000.out
         subst eo26
         go_wp2_with (first | ((with_reducible refine gate_callee (f := 29) rfl ?_); refine goesL_ (some 49) rfl rfl Try.func29 (by kernel_rfl) rfl #[.agg #[.slice Ao26 x548000_1.length co26, .bool true, .int .i64 x548002_1], .string (⟨#[]⟩ : ByteArray)] rfl (ar_) ?_; (with_reducible refine (disk_Names.calls kj7 _ _ x548000_1 true x548002_1 (⟨#[]⟩ : ByteArray) t555 t558 _ ?side1 ?side2 A22.out).mono ?_); (case side1 => repeat (first | exact (Kd.R_reads' HO_548000.out).2.2 | (with_reducible refine Kd.C_alloc ?_ _) | (with_reducible refine Kd.C_drewN ?_ _) | (with_reducible refine Kd.C_drew ?_))); (case side2 => exact (Kd.R_reads' HO_548000.out).2.1); rintro e w27 ⟨v556, rfl, ho0, hb⟩; refine ⟨_, rfl, ?_⟩; replace HO_548000 := Aside0.mk (Kd.R_below (by (with_reducible repeat (first | apply Kd.R_alloc | apply Kd.R_drewN | apply Kd.R_drew)); exact HO_548000.out) hb); have HO557 := Aside0.mk (Kd.R_lower ho0 (below_size (bl_1 HB GE547))); replace BK547 := Aside0.mk (bb_ BK547 hb); replace HB := Aside0.mk (below_step (bl_1 HB GE547) hb); (try clear hb); (try clear hb2); (try clear hk); (try clear hi); (try clear ho0); obtain ⟨hcz28_0, hcz28_1, hcz28_2, hfz28_0, hfz28_1, hfz28_2⟩ := c3_ BK547))
         go_ret
         exact ⟨by first | rfl | (simp; done) | (simp [*]; done), bl_1 HB GE547⟩
        ·replace c24 := Bool.eq_false_iff.mpr c24
         subst c24
         have H1 : ((gafferref02_Check.f kj7 x548000_1 false x548002_1).bind fun t559 => (some (t559 == 0))) = some r := by rw [if_neg (show ¬ (false = true) by decide)] at H; exact H
         clear H
         have H := H1
         clear H1
         replace H := Option.bind_eq_some_iff.mp H
         obtain ⟨t559, A290, H⟩ := H
         replace H : (some (t559 == 0)) = some r := H
         have A29 := Aside0.mk A290
         clear A290
         obtain rfl := Option.some.inj H
         obtain ⟨hcz30_0, hcz30_1, hcz30_2, hfz30_0, hfz30_1, hfz30_2⟩ := c3_ BK547
         obtain ⟨Ao31, co31, eo31⟩ := Kd.R_slice HO_548000.out
         subst eo31
         go_wp2_with (first | ((with_reducible refine gate_callee (f := 29) rfl ?_); refine goesL_ (some 49) rfl rfl Try.func29 (by kernel_rfl) rfl #[.agg #[.slice Ao31 x548000_1.length co31, .bool false, .int .i64 x548002_1], .string (⟨#[]⟩ : ByteArray)] rfl (ar_) ?_; (with_reducible refine (disk_Names.calls kj7 _ _ x548000_1 false x548002_1 (⟨#[]⟩ : ByteArray) t555 t558 _ ?side1 ?side2 A22.out).mono ?_); (case side1 => repeat (first | exact (Kd.R_reads' HO_548000.out).2.2 | (with_reducible refine Kd.C_alloc ?_ _) | (with_reducible refine Kd.C_drewN ?_ _) | (with_reducible refine Kd.C_drew ?_))); (case side2 => exact (Kd.R_reads' HO_548000.out).2.1); rintro e w32 ⟨v556, rfl, ho0, hb⟩; refine ⟨_, rfl, ?_⟩; replace HO_548000 := Aside0.mk (Kd.R_below (by (with_reducible repeat (first | apply Kd.R_alloc | apply Kd.R_drewN | apply Kd.R_drew)); exact HO_548000.out) hb); have HO557 := Aside0.mk (Kd.R_lower ho0 (below_size (bl_1 HB GE547))); replace BK547 := Aside0.mk (bb_ BK547 hb); replace HB := Aside0.mk (below_step (bl_1 HB GE547) hb); (try clear hb); (try clear hb2); (try clear hk); (try clear hi); (try clear ho0); obtain ⟨hcz33_0, hcz33_1, hcz33_2, hfz33_0, hfz33_1, hfz33_2⟩ := c3_ BK547) | (go_at_call 31; (with_reducible refine (gafferref02_Check.calls kj7 _ _ x548000_1 false x548002_1 t559 _ ?side1 ?side2 A29.out).mono ?_); (case side1 => repeat (first | exact (Kd.R_reads' HO_548000.out).2.2 | (with_reducible refine Kd.C_alloc ?_ _) | (with_reducible refine Kd.C_drewN ?_ _) | (with_reducible refine Kd.C_drew ?_))); (case side2 => exact (Kd.R_reads' HO_548000.out).2.1); rintro e w34 ⟨rfl, hb⟩; replace HO_548000 := Aside0.mk (Kd.R_below (by (with_reducible repeat (first | apply Kd.R_alloc | apply Kd.R_drewN | apply Kd.R_drew)); exact HO_548000.out) hb); replace HO557 := Aside0.mk (Kd.R_below (by (with_reducible repeat (first | apply Kd.R_alloc | apply Kd.R_drewN | apply Kd.R_drew)); exact HO557.out) hb); replace BK547 := Aside0.mk (bb_ BK547 hb); replace HB := Aside0.mk (below_step (bl_1 HB GE547) hb); (try clear hb); (try clear hb2); (try clear hk); (try clear hi)))
         go_ret
         exact ⟨by first | rfl | (simp; done) | (simp [*]; done), bl_1 HB GE547⟩
       ·rw [if_neg c23] at H
        have c23b0 : ((t558 == 8) == x548001_1) = false := by simpa using c23
        (try (have c23b1 : decide ((t558 == 8) = x548001_1) = false := by simpa using c23))
        (try (have c23b2 : ((t558 == 8) == x548001_1) = false := by simpa using c23))
        (try (have c23b3 : ¬ ((t558 == 8) = x548001_1) := by simpa using c23))
        clear c23
        exact absurd (H.trans (congrArg some hr)) (by simp)
 ·replace c4 := Bool.eq_false_iff.mpr c4
  subst c4
  have H1 : (some false) = some r := by rw [if_neg (show ¬ (false = true) by decide)] at H; exact H
  clear H
  have H := H1
  clear H1
  exact absurd (H.trans (congrArg some hr)) (by simp)

/-- THE ONE PURE STATEMENT of gafferlaw02_DiskFused: yours. -/
def gafferlaw02_DiskFused.Pure : Prop := ∀ (a0 : Int) (a1 : Int), (Lit.int .u8 a0).wf = true → (Lit.int .i64 a1).wf = true → ∃ k, gafferlaw02_DiskFused.f k a0 a1 = some true
theorem gafferlaw02_DiskFused.walk (P : gafferlaw02_DiskFused.Pure) (a0 : Int) (a1 : Int) (w : World) (w0 : (Lit.int .u8 a0).wf = true) (w1 : (Lit.int .i64 a1).wf = true) :
  Calls Try.prog 10 #[.int .u8 a0, .int .i64 a1] w fun e w' => e = .returned (.bool true) ∧ Below w.heap.size w w' := by
 obtain ⟨k, h⟩ := P a0 a1 w0 w1
 refine (gafferlaw02_DiskFused.calls k a0 a1 true w h rfl).mono ?_
 rintro e w' ⟨rfl, hd⟩
 exact ⟨rfl, hd⟩

end Go.Proofs.Ytpdacpopkegecaa.PA
