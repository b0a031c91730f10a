-- Written for this claim by a program of this session. Lean checks it.
import Derived.Test.YtpdacpopkegecaaPAx0
import Derived.Test.YtpdacpopkegecaaPAx2
import Derived.Test.YtpdacpopkegecaaPAx8
import Derived.Test.YtpdacpopkegecaaPAx9
import Derived.Test.YtpdacpopkegecaaPAx17
import Derived.Test.YtpdacpopkegecaaPAx18
namespace Go.Proofs.Ytpdacpopkegecaa.PA
open Go.RowKit Go.Proofs.YtpdacpopkegecaaW.PrintWords Go.Proofs.YtpdacpopkegecaaW.PrintLast Go.Proofs.YtpdacpopkegecaaW.PrintMore Go.Proofs.Ytpdacpopkegecaa.Sh Go.Proofs.Ytpdacpopkegecaa.Op
attribute [local go_sem] max2_int min2_int max_two min_two max_three min_three max_four min_four   -- for this text's walks alone
set_option linter.unusedVariables false
set_option linter.unusedSimpArgs false

/-! ### gafferref02_Cut: function 24 -/
mutual
def gafferref02_Cut.j0 : Nat → Int → Int → Int → Bool → List (S35) → Bool → Int → Option ((List (S35)) × Bool × Int × Int)
 | 0, _, _, _, _, _, _, _ => none
 | k + 1, x2, x8, x9, x23, x623000, x623001, x623002 => if x23 = true then (gafferref02_Cut.j1 k x2 6 x9 x623000 x623001 x623002) else (gafferref02_Cut.j1 k x2 x8 x9 x623000 x623001 x623002)
def gafferref02_Cut.j1 : Nat → Int → Int → Int → List (S35) → Bool → Int → Option ((List (S35)) × Bool × Int × Int)
 | 0, _, _, _, _, _, _ => none
 | k + 1, x2, x8, x9, x623000, x623001, x623002 => if x8 = 0 then (if x2 < 0 then (gafferref02_Cut.j2 k x2 x8 x9 true x623000 x623001 x623002) else (if 0 ≤ x9 then (if x9 < (x623000.length : Int) then (gafferref02_Cut.j2 k x2 x8 x9 (decide (x2 > (((rd_T35 x623000 x9).f1).size : Int))) x623000 x623001 x623002) else (none)) else (none))) else (gafferref02_Cut.j2 k x2 x8 x9 false x623000 x623001 x623002)
def gafferref02_Cut.j2 : Nat → Int → Int → Int → Bool → List (S35) → Bool → Int → Option ((List (S35)) × Bool × Int × Int)
 | 0, _, _, _, _, _, _, _ => none
 | k + 1, x2, x8, x9, x40, x623000, x623001, x623002 => if x40 = true then (gafferref02_Cut.j3 k x2 1 x9 x623000 x623001 x623002) else (gafferref02_Cut.j3 k x2 x8 x9 x623000 x623001 x623002)
def gafferref02_Cut.j3 : Nat → Int → Int → Int → List (S35) → Bool → Int → Option ((List (S35)) × Bool × Int × Int)
 | 0, _, _, _, _, _, _ => none
 | k + 1, x2, x8, x9, x623000, x623001, x623002 => if x8 = 0 then ((gafferref02_Copy.f x623000 x623001 x623002).bind fun bt633 => ((gafferref02_burnt.f bt633.1 bt633.2.1 bt633.2.2).bind fun bt638 => (if bt638.2.2.2 = true then (if 0 ≤ x9 then (if x9 < (bt638.1.length : Int) then (if 0 ≤ x2 then (if x2 ≤ (((rd_T35 bt638.1 x9).f1).size : Int) then (if ((rd_T35 bt638.1 x9).f2) > x2 then ((gafferref02_with.f k bt638.1 bt638.2.1 bt638.2.2.1 ((rd_T35 bt638.1 x9).f0) (((rd_T35 bt638.1 x9).f1).extract 0 (x2 : Int).toNat) x2).bind fun bt647 => (some (bt647.1, bt647.2.1, bt647.2.2, 0))) else ((gafferref02_with.f k bt638.1 bt638.2.1 bt638.2.2.1 ((rd_T35 bt638.1 x9).f0) (((rd_T35 bt638.1 x9).f1).extract 0 (x2 : Int).toNat) ((rd_T35 bt638.1 x9).f2)).bind fun bt652 => (some (bt652.1, bt652.2.1, bt652.2.2, 0)))) else (none)) else (none)) else (none)) else (none)) else (some (bt638.1, bt638.2.1, bt638.2.2.1, 8))))) else ((gafferref02_bad.f x623000 x623001 x623002 x8).bind fun bt627 => (some (bt627.1, bt627.2.1, bt627.2.2.1, bt627.2.2.2)))
end
def gafferref02_Cut.f (k : Nat) (l0_0 : List (S35)) (a0_1 : Bool) (a0_2 : Int) (a1 : ByteArray) (a2 : Int) : Option ((List (S35)) × Bool × Int × Int) := (gafferref02_ready.f k l0_0 a0_1 a0_2).bind fun t624 => ((gafferref02_find.f k l0_0 a0_1 a0_2 a1).bind fun t625 => (if t624 = 0 then (gafferref02_Cut.j0 k a2 t624 t625 (decide (t625 < 0)) l0_0 a0_1 a0_2) else (gafferref02_Cut.j0 k a2 t624 t625 false l0_0 a0_1 a0_2)))
theorem gafferref02_Cut.mono_l : ∀ k, (∀ y0 y1 y2 y3 y4 y5 y6, LeO (gafferref02_Cut.j0 k y0 y1 y2 y3 y4 y5 y6) (gafferref02_Cut.j0 (k + 1) y0 y1 y2 y3 y4 y5 y6)) ∧ (∀ y0 y1 y2 y3 y4 y5, LeO (gafferref02_Cut.j1 k y0 y1 y2 y3 y4 y5) (gafferref02_Cut.j1 (k + 1) y0 y1 y2 y3 y4 y5)) ∧ (∀ y0 y1 y2 y3 y4 y5 y6, LeO (gafferref02_Cut.j2 k y0 y1 y2 y3 y4 y5 y6) (gafferref02_Cut.j2 (k + 1) y0 y1 y2 y3 y4 y5 y6)) ∧ (∀ y0 y1 y2 y3 y4 y5, LeO (gafferref02_Cut.j3 k y0 y1 y2 y3 y4 y5) (gafferref02_Cut.j3 (k + 1) y0 y1 y2 y3 y4 y5))
 | 0 => ⟨fun _ _ _ _ _ _ _ r h => by simp [gafferref02_Cut.j0] at h, fun _ _ _ _ _ _ r h => by simp [gafferref02_Cut.j1] at h, fun _ _ _ _ _ _ _ r h => by simp [gafferref02_Cut.j2] at h, fun _ _ _ _ _ _ r h => by simp [gafferref02_Cut.j3] at h⟩
 | k + 1 => by
  obtain ⟨ih0, ih1, ih2, ih3⟩ := gafferref02_Cut.mono_l k
  refine ⟨?_, ?_, ?_, ?_⟩
  ·intro y0 y1 y2 y3 y4 y5 y6
   unfold gafferref02_Cut.j0
   repeat' first
   | (with_reducible exact ih0 _ _ _ _ _ _ _)
   | (with_reducible exact ih1 _ _ _ _ _ _)
   | (with_reducible exact ih2 _ _ _ _ _ _ _)
   | (with_reducible exact ih3 _ _ _ _ _ _)
   | (with_reducible exact gafferref02_find.mono _ _ _ _ _)
   | (with_reducible exact gafferref02_ready.mono _ _ _ _)
   | (with_reducible exact gafferref02_with.mono _ _ _ _ _ _ _)
   | (with_reducible exact LeO.refl _)
   | (with_reducible exact LeO.none _)
   | (with_reducible refine LeO.ite ?_ ?_)
   | (with_reducible refine LeO.bind ?_ (fun _ => ?_))
   | exact ih0 _ _ _ _ _ _ _
   | exact ih1 _ _ _ _ _ _
   | exact ih2 _ _ _ _ _ _ _
   | exact ih3 _ _ _ _ _ _
   | exact gafferref02_find.mono _ _ _ _ _
   | exact gafferref02_ready.mono _ _ _ _
   | exact gafferref02_with.mono _ _ _ _ _ _ _
   | exact LeO.none _
   | refine LeO.ite ?_ ?_
   | refine LeO.bind ?_ (fun _ => ?_)
  ·intro y0 y1 y2 y3 y4 y5
   unfold gafferref02_Cut.j1
   repeat' first
   | (with_reducible exact ih0 _ _ _ _ _ _ _)
   | (with_reducible exact ih1 _ _ _ _ _ _)
   | (with_reducible exact ih2 _ _ _ _ _ _ _)
   | (with_reducible exact ih3 _ _ _ _ _ _)
   | (with_reducible exact gafferref02_find.mono _ _ _ _ _)
   | (with_reducible exact gafferref02_ready.mono _ _ _ _)
   | (with_reducible exact gafferref02_with.mono _ _ _ _ _ _ _)
   | (with_reducible exact LeO.refl _)
   | (with_reducible exact LeO.none _)
   | (with_reducible refine LeO.ite ?_ ?_)
   | (with_reducible refine LeO.bind ?_ (fun _ => ?_))
   | exact ih0 _ _ _ _ _ _ _
   | exact ih1 _ _ _ _ _ _
   | exact ih2 _ _ _ _ _ _ _
   | exact ih3 _ _ _ _ _ _
   | exact gafferref02_find.mono _ _ _ _ _
   | exact gafferref02_ready.mono _ _ _ _
   | exact gafferref02_with.mono _ _ _ _ _ _ _
   | exact LeO.none _
   | refine LeO.ite ?_ ?_
   | refine LeO.bind ?_ (fun _ => ?_)
  ·intro y0 y1 y2 y3 y4 y5 y6
   unfold gafferref02_Cut.j2
   repeat' first
   | (with_reducible exact ih0 _ _ _ _ _ _ _)
   | (with_reducible exact ih1 _ _ _ _ _ _)
   | (with_reducible exact ih2 _ _ _ _ _ _ _)
   | (with_reducible exact ih3 _ _ _ _ _ _)
   | (with_reducible exact gafferref02_find.mono _ _ _ _ _)
   | (with_reducible exact gafferref02_ready.mono _ _ _ _)
   | (with_reducible exact gafferref02_with.mono _ _ _ _ _ _ _)
   | (with_reducible exact LeO.refl _)
   | (with_reducible exact LeO.none _)
   | (with_reducible refine LeO.ite ?_ ?_)
   | (with_reducible refine LeO.bind ?_ (fun _ => ?_))
   | exact ih0 _ _ _ _ _ _ _
   | exact ih1 _ _ _ _ _ _
   | exact ih2 _ _ _ _ _ _ _
   | exact ih3 _ _ _ _ _ _
   | exact gafferref02_find.mono _ _ _ _ _
   | exact gafferref02_ready.mono _ _ _ _
   | exact gafferref02_with.mono _ _ _ _ _ _ _
   | exact LeO.none _
   | refine LeO.ite ?_ ?_
   | refine LeO.bind ?_ (fun _ => ?_)
  ·intro y0 y1 y2 y3 y4 y5
   unfold gafferref02_Cut.j3
   repeat' first
   | (with_reducible exact ih0 _ _ _ _ _ _ _)
   | (with_reducible exact ih1 _ _ _ _ _ _)
   | (with_reducible exact ih2 _ _ _ _ _ _ _)
   | (with_reducible exact ih3 _ _ _ _ _ _)
   | (with_reducible exact gafferref02_find.mono _ _ _ _ _)
   | (with_reducible exact gafferref02_ready.mono _ _ _ _)
   | (with_reducible exact gafferref02_with.mono _ _ _ _ _ _ _)
   | (with_reducible exact LeO.refl _)
   | (with_reducible exact LeO.none _)
   | (with_reducible refine LeO.ite ?_ ?_)
   | (with_reducible refine LeO.bind ?_ (fun _ => ?_))
   | exact ih0 _ _ _ _ _ _ _
   | exact ih1 _ _ _ _ _ _
   | exact ih2 _ _ _ _ _ _ _
   | exact ih3 _ _ _ _ _ _
   | exact gafferref02_find.mono _ _ _ _ _
   | exact gafferref02_ready.mono _ _ _ _
   | exact gafferref02_with.mono _ _ _ _ _ _ _
   | exact LeO.none _
   | refine LeO.ite ?_ ?_
   | refine LeO.bind ?_ (fun _ => ?_)
theorem gafferref02_Cut.mono : ∀ a0 a1 a2 a3 a4 k, LeO (gafferref02_Cut.f k a0 a1 a2 a3 a4) (gafferref02_Cut.f (k + 1) a0 a1 a2 a3 a4) := by
 intro a0 a1 a2 a3 a4 k
 obtain ⟨ih0, ih1, ih2, ih3⟩ := gafferref02_Cut.mono_l k
 unfold gafferref02_Cut.f
 repeat' first
   | (with_reducible exact ih0 _ _ _ _ _ _ _)
   | (with_reducible exact ih1 _ _ _ _ _ _)
   | (with_reducible exact ih2 _ _ _ _ _ _ _)
   | (with_reducible exact ih3 _ _ _ _ _ _)
   | (with_reducible exact gafferref02_find.mono _ _ _ _ _)
   | (with_reducible exact gafferref02_ready.mono _ _ _ _)
   | (with_reducible exact gafferref02_with.mono _ _ _ _ _ _ _)
   | (with_reducible exact LeO.refl _)
   | (with_reducible exact LeO.none _)
   | (with_reducible refine LeO.ite ?_ ?_)
   | (with_reducible refine LeO.bind ?_ (fun _ => ?_))
   | exact ih0 _ _ _ _ _ _ _
   | exact ih1 _ _ _ _ _ _
   | exact ih2 _ _ _ _ _ _ _
   | exact ih3 _ _ _ _ _ _
   | exact gafferref02_find.mono _ _ _ _ _
   | exact gafferref02_ready.mono _ _ _ _
   | exact gafferref02_with.mono _ _ _ _ _ _ _
   | exact LeO.none _
   | refine LeO.ite ?_ ?_
   | refine LeO.bind ?_ (fun _ => ?_)
set_option maxHeartbeats 80000000 in
set_option maxRecDepth 100000 in
theorem gafferref02_Cut.calls (k : Nat) (A0_0 : Option Addr) (c0_0 : Nat) (l0_0 : List (S35)) (a0_1 : Bool) (a0_2 : Int) (a1 : ByteArray) (a2 : Int) (r1 : List (S35)) (r2 : Bool) (r3 : Int) (r4 : Int) (w : World) (hr0_0 : Kd.C k35 w A0_0 l0_0.length l0_0) (hc0_0 : l0_0.length ≤ c0_0) (h : gafferref02_Cut.f k l0_0 a0_1 a0_2 a1 a2 = some (r1, r2, r3, r4)) :
  Calls Try.prog 24 #[.agg #[.slice A0_0 l0_0.length c0_0, .bool a0_1, .int .i64 a0_2], .string a1, .int .i64 a2] w fun e w' => ∃ v0_ : Value, e = .returned (.tuple #[.agg #[v0_, .bool r2, .int .i64 r3], .int .i64 r4]) ∧ Kd.R k35 35 w' w.heap.size (fun _ => True) v0_ r1 ∧ Below w.heap.size w w' := by
 have hu24 := Try.underlying24
 have hu35 := Try.underlying35
 have HR0_0 := Aside0.mk hr0_0
 have HC0_0 := Aside0.mk hc0_0
 clear hr0_0 hc0_0
 have HB := Aside0.mk (Below.refl w.heap.size w)
 have H : ((gafferref02_ready.f k l0_0 a0_1 a0_2).bind fun t624 => ((gafferref02_find.f k l0_0 a0_1 a0_2 a1).bind fun t625 => (if t624 = 0 then (gafferref02_Cut.j0 k a2 t624 t625 (decide (t625 < 0)) l0_0 a0_1 a0_2) else (gafferref02_Cut.j0 k a2 t624 t625 false l0_0 a0_1 a0_2)))) = some (r1, r2, r3, r4) := h
 clear h
 replace H := Option.bind_eq_some_iff.mp H
 obtain ⟨t624, A40, H⟩ := H
 replace H : ((gafferref02_find.f k l0_0 a0_1 a0_2 a1).bind fun t625 => (if t624 = 0 then (gafferref02_Cut.j0 k a2 t624 t625 (decide (t625 < 0)) l0_0 a0_1 a0_2) else (gafferref02_Cut.j0 k a2 t624 t625 false l0_0 a0_1 a0_2))) = some (r1, r2, r3, r4) := H
 have A4 := Aside0.mk A40
 clear A40
 replace H := Option.bind_eq_some_iff.mp H
 obtain ⟨t625, A50, H⟩ := H
 replace H : (if t624 = 0 then (gafferref02_Cut.j0 k a2 t624 t625 (decide (t625 < 0)) l0_0 a0_1 a0_2) else (gafferref02_Cut.j0 k a2 t624 t625 false l0_0 a0_1 a0_2)) = some (r1, r2, r3, r4) := H
 have A5 := Aside0.mk A50
 clear A50
 have HC6 := Aside0.mk H
 clear H
 go_enter Try.func24, Try.ntmps24
 go_upto_region 3 with (first | ((with_reducible refine gate_dst (N := 3) rfl ?_); (try (refine gate_guard (by rfl) ?_; dsimp only)); refine box_event ?hg (N := 3) ?hd (cs := #[.slice A0_0 l0_0.length c0_0, .bool a0_1, .int .i64 a0_2]) (t := 24) ?hr ?_; (case hd => rfl); (case hg => rfl); (case hr => first | (go_simp; done) | (go_simp; rfl)); intro gb622 hg w7 hbox hb; have BK622 := Aside0.mk (hbox); have GW622 := Aside0.mk (bs_0 hg HB); have GE622 := Aside0.mk (bs_0 hg HB); replace HB := Aside0.mk (below_step (bl_ HB) hb); clear hb hbox hg) | ((with_reducible refine gate_dst (N := 6) rfl ?_); (try (refine gate_guard (by rfl) ?_; dsimp only)); refine box_event ?hg (N := 6) ?hd (cs := #[.slice none 0 0, .bool false, .int .i64 0]) (t := 24) ?hr ?_; (case hd => rfl); (case hg => rfl); (case hr => first | (go_simp; done) | (go_simp; rfl)); intro gb623 hg w8 hbox hb; have BK623 := Aside0.mk (hbox); have GW623 := Aside0.mk (bs_1 hg HB GE622); have GE623 := Aside0.mk (bs_1 hg HB GE622); replace HB := Aside0.mk (below_step (bl_1 HB GE622) hb); have NB622_623 := Aside0.mk (nb_ hg BK622); have NB623_622 := Aside0.mk (nc_ hg BK622); replace BK622 := Aside0.mk (bb_ BK622 hb); clear hb hbox hg; have hnb9 := NB622_623.out; have hnc9 := NB623_622.out; obtain ⟨hcz10_0, hcz10_1, hcz10_2, hfz10_0, hfz10_1, hfz10_2⟩ := c3_ BK622) | ((with_reducible refine gate_callee (f := 36) rfl ?_); refine goesL_ (some 14) rfl rfl Try.func36 (by kernel_rfl) rfl #[.agg #[.slice A0_0 l0_0.length c0_0, .bool a0_1, .int .i64 a0_2]] rfl (ar_) ?_; (with_reducible refine (gafferref02_ready.calls k _ _ l0_0 a0_1 a0_2 t624 _ ?side1 ?side2 A4.out).mono ?_); (case side1 => repeat (first | exact (Kd.C_below HR0_0.out HB.out) | (with_reducible refine Kd.C_alloc ?_ _) | (with_reducible refine Kd.C_drewN ?_ _) | (with_reducible refine Kd.C_drew ?_))); (case side2 => exact HC0_0.out); rintro e w11 ⟨rfl, hb⟩; refine ⟨_, rfl, ?_⟩; replace BK622 := Aside0.mk (bb_ BK622 hb); replace BK623 := Aside0.mk (bb_ BK623 hb); replace HB := Aside0.mk (below_step (bl_2 HB GE622 GE623) hb); (try clear hb); (try clear hb2); (try clear hk); (try clear hi); obtain ⟨hcz12_0, hcz12_1, hcz12_2, hfz12_0, hfz12_1, hfz12_2⟩ := c3_ BK622) | ((with_reducible refine gate_callee (f := 37) rfl ?_); refine goesL_ (some 17) rfl rfl Try.func37 (by kernel_rfl) rfl #[.agg #[.slice A0_0 l0_0.length c0_0, .bool a0_1, .int .i64 a0_2], .string a1] rfl (ar_) ?_; (with_reducible refine (gafferref02_find.calls k _ _ l0_0 a0_1 a0_2 a1 t625 _ ?side1 ?side2 A5.out).mono ?_); (case side1 => repeat (first | exact (Kd.C_below HR0_0.out HB.out) | (with_reducible refine Kd.C_alloc ?_ _) | (with_reducible refine Kd.C_drewN ?_ _) | (with_reducible refine Kd.C_drew ?_))); (case side2 => exact HC0_0.out); rintro e w13 ⟨rfl, hb⟩; refine ⟨_, rfl, ?_⟩; replace BK622 := Aside0.mk (bb_ BK622 hb); replace BK623 := Aside0.mk (bb_ BK623 hb); replace HB := Aside0.mk (below_step (bl_2 HB GE622 GE623) hb); (try clear hb); (try clear hb2); (try clear hk); (try clear hi)))
 (try simp only [Act.put, List.setIfInBounds_toArray, List.set_cons_zero, List.set_cons_succ])
 go_cut [23] (fun v23 wc => ∃ (kq : Nat) (x23_5 : Bool), v23 = .bool x23_5 ∧ Aside0 (gafferref02_Cut.j0 kq a2 t624 t625 x23_5 l0_0 a0_1 a0_2 = some (r1, r2, r3, r4)) ∧ Aside0 (kq ≤ k) ∧ Aside0 (wc.heap[gb622]? = some (.cells #[(.slice A0_0 l0_0.length c0_0), .bool a0_1, .int .i64 a0_2] 24 (0, 0))) ∧ Aside0 (wc.heap[gb623]? = some (.cells #[(.slice none 0 0), .bool false, .int .i64 0] 24 (0, 0))) ∧ Aside0 (Below w.heap.size w wc))
 case first =>
  have H := HC6.out
  clear HC6
  by_cases c14 : t624 = 0
  ·rw [if_pos c14] at H
   have c14b0 : (t624 == 0) = true := beq_iff_eq.mpr c14
   have c14b1 : (t624 != 0) = false := bne_eq_false_iff_eq.mpr c14
   clear c14
   (first | rw [c14b0] | (simp only [i64_w, i32_w]; rw [c14b0]) | skip)
   have H' := Aside0.mk H
   clear H
   go_wp2
   go_meet
   case rel => exact ⟨_, (decide (t625 < 0)), (by first | rfl | (simp; done) | (simp [*]; done)), H', ⟨by first | omega | exact Nat.le_refl _⟩, ⟨bk_ BK622⟩, ⟨bk_ BK623⟩, ⟨bl_2 HB GE622 GE623⟩⟩
  ·rw [if_neg c14] at H
   have c14b0 : (t624 == 0) = false := beq_eq_false_iff_ne.mpr c14
   have c14b1 : (t624 != 0) = true := bne_iff_ne.mpr c14
   (first | rw [c14b0] | (simp only [i64_w, i32_w]; rw [c14b0]) | skip)
   have H' := Aside0.mk H
   clear H
   go_wp2
   go_meet
   case rel => exact ⟨_, (false), (by first | rfl | (simp; done) | (simp [*]; done)), H', ⟨by first | omega | exact Nat.le_refl _⟩, ⟨bk_ BK622⟩, ⟨bk_ BK623⟩, ⟨bl_2 HB GE622 GE623⟩⟩
 case rest =>
  clear HC6
  try clear c1
  try clear c2
  try clear p2
  try clear c3
  try clear c9
  try clear c14
  try clear c14b0
  try clear c14b1
  try clear hcz10_0
  try clear hcz10_1
  try clear hcz10_2
  try clear hcz12_0
  try clear hcz12_1
  try clear hcz12_2
  try clear hfz10_0
  try clear hfz10_1
  try clear hfz10_2
  try clear hfz12_0
  try clear hfz12_1
  try clear hfz12_2
  obtain ⟨kq, x23_5, rfl, HA, HJ5, BK622, BK623, HB⟩ := hcut
  cases kq with
  | zero => exact absurd HA.out (by simp [gafferref02_Cut.j0])
  | succ kj5 =>
   have H := HA.out
   clear HA
   simp only [gafferref02_Cut.j0] at H
   have HC15 := Aside0.mk H
   clear H
   go_upto_if 23 with (fail)
   go_cut [8] (fun v8 wc => ∃ (kq : Nat) (x8_14 : Int), v8 = .int .i64 x8_14 ∧ Aside0 (gafferref02_Cut.j1 kq a2 x8_14 t625 l0_0 a0_1 a0_2 = some (r1, r2, r3, r4)) ∧ Aside0 (kq ≤ kj5) ∧ Aside0 (wc.heap[gb622]? = some (.cells #[(.slice A0_0 l0_0.length c0_0), .bool a0_1, .int .i64 a0_2] 24 (0, 0))) ∧ Aside0 (wc.heap[gb623]? = some (.cells #[(.slice none 0 0), .bool false, .int .i64 0] 24 (0, 0))) ∧ Aside0 (Below w.heap.size w wc))
   case first =>
    have H := HC15.out
    clear HC15
    by_cases c16 : x23_5 = true
    ·subst c16
     have H1 : (gafferref02_Cut.j1 kj5 a2 6 t625 l0_0 a0_1 a0_2) = some (r1, r2, r3, r4) := by rw [if_pos rfl] at H; exact H
     clear H
     have H := H1
     clear H1
     have H' := Aside0.mk H
     clear H
     go_wp2
     go_meet
     case rel => exact ⟨_, (6), (by first | rfl | (simp; done) | (simp [*]; done)), H', ⟨by have := HJ5.out; first | omega | exact Nat.le_refl _⟩, ⟨bk_ BK622⟩, ⟨bk_ BK623⟩, ⟨bl_2 HB GE622 GE623⟩⟩
    ·replace c16 := Bool.eq_false_iff.mpr c16
     subst c16
     have H1 : (gafferref02_Cut.j1 kj5 a2 t624 t625 l0_0 a0_1 a0_2) = some (r1, r2, r3, r4) := by rw [if_neg (show ¬ (false = true) by decide)] at H; exact H
     clear H
     have H := H1
     clear H1
     have H' := Aside0.mk H
     clear H
     go_wp2
     go_meet
     case rel => exact ⟨_, (t624), (by first | rfl | (simp; done) | (simp [*]; done)), H', ⟨by have := HJ5.out; first | omega | exact Nat.le_refl _⟩, ⟨bk_ BK622⟩, ⟨bk_ BK623⟩, ⟨bl_2 HB GE622 GE623⟩⟩
   case rest =>
    clear HC15
    try clear c1
    try clear c2
    try clear p2
    try clear c3
    try clear c9
    try clear c14
    try clear c14b0
    try clear c14b1
    try clear c16
    try clear hcz10_0
    try clear hcz10_1
    try clear hcz10_2
    try clear hcz12_0
    try clear hcz12_1
    try clear hcz12_2
    try clear hfz10_0
    try clear hfz10_1
    try clear hfz10_2
    try clear hfz12_0
    try clear hfz12_1
    try clear hfz12_2
    try clear p2
    obtain ⟨kq, x8_14, rfl, HA, HJ14, BK622, BK623, HB⟩ := hcut
    cases kq with
    | zero => exact absurd HA.out (by simp [gafferref02_Cut.j1])
    | succ kj14 =>
     have H := HA.out
     clear HA
     simp only [gafferref02_Cut.j1] at H
     have HC17 := Aside0.mk H
     clear H
     go_upto_region 5 with (fail)
     go_cut [40] (fun v40 wc => ∃ (kq : Nat) (x40_16 : Bool), v40 = .bool x40_16 ∧ Aside0 (gafferref02_Cut.j2 kq a2 x8_14 t625 x40_16 l0_0 a0_1 a0_2 = some (r1, r2, r3, r4)) ∧ Aside0 (kq ≤ kj14) ∧ Aside0 (wc.heap[gb622]? = some (.cells #[(.slice A0_0 l0_0.length c0_0), .bool a0_1, .int .i64 a0_2] 24 (0, 0))) ∧ Aside0 (wc.heap[gb623]? = some (.cells #[(.slice none 0 0), .bool false, .int .i64 0] 24 (0, 0))) ∧ Aside0 (Below w.heap.size w wc))
     case first =>
      have H := HC17.out
      clear HC17
      by_cases c18 : x8_14 = 0
      ·rw [if_pos c18] at H
       have c18b0 : (x8_14 == 0) = true := beq_iff_eq.mpr c18
       have c18b1 : (x8_14 != 0) = false := bne_eq_false_iff_eq.mpr c18
       clear c18
       (first | rw [c18b0] | (simp only [i64_w, i32_w]; rw [c18b0]) | skip)
       by_cases c19 : a2 < 0
       ·rw [if_pos c19] at H
        have c19b0 : decide (a2 < 0) = true := decide_eq_true c19
        clear c19
        have H' := Aside0.mk H
        clear H
        go_wp2
        go_meet
        case rel => exact ⟨_, (true), (by first | rfl | (simp; done) | (simp [*]; done)), H', ⟨by have := HJ5.out; have := HJ14.out; first | omega | exact Nat.le_refl _⟩, ⟨bk_ BK622⟩, ⟨bk_ BK623⟩, ⟨bl_2 HB GE622 GE623⟩⟩
       ·rw [if_neg c19] at H
        have c19b0 : decide (a2 < 0) = false := decide_eq_false c19
        clear c19
        by_cases c20 : 0 ≤ t625
        ·rw [if_pos c20] at H
         have c20b0 : decide (0 ≤ t625) = true := decide_eq_true c20
         clear c20
         by_cases c21 : t625 < (l0_0.length : Int)
         ·rw [if_pos c21] at H
          have c21b0 : decide (t625 < (l0_0.length : Int)) = true := decide_eq_true c21
          clear c21
          have H' := Aside0.mk H
          clear H
          have hnb22 := NB622_623.out
          have hnc22 := NB623_622.out
          obtain ⟨hcz23_0, hcz23_1, hcz23_2, hfz23_0, hfz23_1, hfz23_2⟩ := c3_ BK622
          have p626 : 0 ≤ (t625 : Int) := of_decide_eq_true (by first | (with_reducible assumption) | assumption)
          have q626 : t625 < (l0_0.length : Int) := of_decide_eq_true (by first | (with_reducible assumption) | assumption)
          obtain ⟨ad626, e626, hx626_0, hx626_1, hx626_2⟩ := at_T35 HR0_0.out t625 p626 q626
          cases e626
          replace hx626_0 := (HB.out.cell (World.block_lt_of_cell? w _ hx626_0)).trans hx626_0
          replace hx626_1 := (HB.out.cell (World.block_lt_of_cell? w _ hx626_1)).trans hx626_1
          replace hx626_2 := (HB.out.cell (World.block_lt_of_cell? w _ hx626_2)).trans hx626_2
          replace p626 := eq_true p626
          replace q626 := eq_true q626
          go_wp2
          go_meet
          case rel => exact ⟨_, (decide (a2 > (((rd_T35 l0_0 t625).f1).size : Int))), (by first | rfl | (simp; done) | (simp [*]; done)), H', ⟨by have := HJ5.out; have := HJ14.out; first | omega | exact Nat.le_refl _⟩, ⟨bk_ BK622⟩, ⟨bk_ BK623⟩, ⟨bl_2 HB GE622 GE623⟩⟩
         ·rw [if_neg c21] at H
          exact absurd H (by simp)
        ·rw [if_neg c20] at H
         exact absurd H (by simp)
      ·rw [if_neg c18] at H
       have c18b0 : (x8_14 == 0) = false := beq_eq_false_iff_ne.mpr c18
       have c18b1 : (x8_14 != 0) = true := bne_iff_ne.mpr c18
       (first | rw [c18b0] | (simp only [i64_w, i32_w]; rw [c18b0]) | skip)
       have H' := Aside0.mk H
       clear H
       go_wp2
       go_meet
       case rel => exact ⟨_, (false), (by first | rfl | (simp; done) | (simp [*]; done)), H', ⟨by have := HJ5.out; have := HJ14.out; first | omega | exact Nat.le_refl _⟩, ⟨bk_ BK622⟩, ⟨bk_ BK623⟩, ⟨bl_2 HB GE622 GE623⟩⟩
     case rest =>
      clear HC17
      try clear c1
      try clear c2
      try clear p2
      try clear c3
      try clear p6
      try clear q6
      try clear hx6
      try clear c9
      try clear c14
      try clear c14b0
      try clear c14b1
      try clear c16
      try clear c18
      try clear c18b0
      try clear c18b1
      try clear c19
      try clear c19b0
      try clear c20
      try clear c20b0
      try clear c21
      try clear c21b0
      try clear c22
      try clear hcz10_0
      try clear hcz10_1
      try clear hcz10_2
      try clear hcz12_0
      try clear hcz12_1
      try clear hcz12_2
      try clear hcz23_0
      try clear hcz23_1
      try clear hcz23_2
      try clear hfz10_0
      try clear hfz10_1
      try clear hfz10_2
      try clear hfz12_0
      try clear hfz12_1
      try clear hfz12_2
      try clear hfz23_0
      try clear hfz23_1
      try clear hfz23_2
      try clear hx626_0
      try clear hx626_1
      try clear hx626_2
      try clear p2
      try clear p626
      try clear q626
      obtain ⟨kq, x40_16, rfl, HA, HJ16, BK622, BK623, HB⟩ := hcut
      cases kq with
      | zero => exact absurd HA.out (by simp [gafferref02_Cut.j2])
      | succ kj16 =>
       have H := HA.out
       clear HA
       simp only [gafferref02_Cut.j2] at H
       have HC24 := Aside0.mk H
       clear H
       go_upto_if 40 with (fail)
       go_cut [8] (fun v8 wc => ∃ (kq : Nat) (x8_23 : Int), v8 = .int .i64 x8_23 ∧ Aside0 (gafferref02_Cut.j3 kq a2 x8_23 t625 l0_0 a0_1 a0_2 = some (r1, r2, r3, r4)) ∧ Aside0 (kq ≤ kj16) ∧ Aside0 (wc.heap[gb622]? = some (.cells #[(.slice A0_0 l0_0.length c0_0), .bool a0_1, .int .i64 a0_2] 24 (0, 0))) ∧ Aside0 (wc.heap[gb623]? = some (.cells #[(.slice none 0 0), .bool false, .int .i64 0] 24 (0, 0))) ∧ Aside0 (Below w.heap.size w wc))
       case first =>
        have H := HC24.out
        clear HC24
        by_cases c25 : x40_16 = true
        ·subst c25
         have H1 : (gafferref02_Cut.j3 kj16 a2 1 t625 l0_0 a0_1 a0_2) = some (r1, r2, r3, r4) := by rw [if_pos rfl] at H; exact H
         clear H
         have H := H1
         clear H1
         have H' := Aside0.mk H
         clear H
         go_wp2
         go_meet
         case rel => exact ⟨_, (1), (by first | rfl | (simp; done) | (simp [*]; done)), H', ⟨by have := HJ5.out; have := HJ14.out; have := HJ16.out; first | omega | exact Nat.le_refl _⟩, ⟨bk_ BK622⟩, ⟨bk_ BK623⟩, ⟨bl_2 HB GE622 GE623⟩⟩
        ·replace c25 := Bool.eq_false_iff.mpr c25
         subst c25
         have H1 : (gafferref02_Cut.j3 kj16 a2 x8_14 t625 l0_0 a0_1 a0_2) = some (r1, r2, r3, r4) := by rw [if_neg (show ¬ (false = true) by decide)] at H; exact H
         clear H
         have H := H1
         clear H1
         have H' := Aside0.mk H
         clear H
         go_wp2
         go_meet
         case rel => exact ⟨_, (x8_14), (by first | rfl | (simp; done) | (simp [*]; done)), H', ⟨by have := HJ5.out; have := HJ14.out; have := HJ16.out; first | omega | exact Nat.le_refl _⟩, ⟨bk_ BK622⟩, ⟨bk_ BK623⟩, ⟨bl_2 HB GE622 GE623⟩⟩
       case rest =>
        clear HC24
        try clear c1
        try clear c2
        try clear p2
        try clear c3
        try clear p6
        try clear q6
        try clear hx6
        try clear c9
        try clear c14
        try clear c14b0
        try clear c14b1
        try clear c16
        try clear c18
        try clear c18b0
        try clear c18b1
        try clear c19
        try clear c19b0
        try clear c20
        try clear c20b0
        try clear c21
        try clear c21b0
        try clear c22
        try clear c24
        try clear c25
        try clear hcz10_0
        try clear hcz10_1
        try clear hcz10_2
        try clear hcz12_0
        try clear hcz12_1
        try clear hcz12_2
        try clear hcz23_0
        try clear hcz23_1
        try clear hcz23_2
        try clear hfz10_0
        try clear hfz10_1
        try clear hfz10_2
        try clear hfz12_0
        try clear hfz12_1
        try clear hfz12_2
        try clear hfz23_0
        try clear hfz23_1
        try clear hfz23_2
        try clear hx626_0
        try clear hx626_1
        try clear hx626_2
        try clear p2
        try clear p6
        try clear p626
        try clear q6
        try clear q626
        obtain ⟨kq, x8_23, rfl, HA, HJ23, BK622, BK623, HB⟩ := hcut
        cases kq with
        | zero => exact absurd HA.out (by simp [gafferref02_Cut.j3])
        | succ kj23 =>
         have H := HA.out
         clear HA
         simp only [gafferref02_Cut.j3] at H
         by_cases c26 : x8_23 = 0
         ·rw [if_pos c26] at H
          have c26b0 : (x8_23 == 0) = true := beq_iff_eq.mpr c26
          have c26b1 : (x8_23 != 0) = false := bne_eq_false_iff_eq.mpr c26
          clear c26
          replace H := Option.bind_eq_some_iff.mp H
          obtain ⟨⟨t633, t636, t637⟩, A270, H⟩ := H
          replace H : ((gafferref02_burnt.f t633 t636 t637).bind fun bt638 => (if bt638.2.2.2 = true then (if 0 ≤ t625 then (if t625 < (bt638.1.length : Int) then (if 0 ≤ a2 then (if a2 ≤ (((rd_T35 bt638.1 t625).f1).size : Int) then (if ((rd_T35 bt638.1 t625).f2) > a2 then ((gafferref02_with.f kj23 bt638.1 bt638.2.1 bt638.2.2.1 ((rd_T35 bt638.1 t625).f0) (((rd_T35 bt638.1 t625).f1).extract 0 (a2 : Int).toNat) a2).bind fun bt647 => (some (bt647.1, bt647.2.1, bt647.2.2, 0))) else ((gafferref02_with.f kj23 bt638.1 bt638.2.1 bt638.2.2.1 ((rd_T35 bt638.1 t625).f0) (((rd_T35 bt638.1 t625).f1).extract 0 (a2 : Int).toNat) ((rd_T35 bt638.1 t625).f2)).bind fun bt652 => (some (bt652.1, bt652.2.1, bt652.2.2, 0)))) else (none)) else (none)) else (none)) else (none)) else (some (bt638.1, bt638.2.1, bt638.2.2.1, 8)))) = some (r1, r2, r3, r4) := H
          have A27 := Aside0.mk A270
          clear A270
          replace H := Option.bind_eq_some_iff.mp H
          obtain ⟨⟨t638, t641, t642, t643⟩, A280, H⟩ := H
          replace H : (if t643 = true then (if 0 ≤ t625 then (if t625 < (t638.length : Int) then (if 0 ≤ a2 then (if a2 ≤ (((rd_T35 t638 t625).f1).size : Int) then (if ((rd_T35 t638 t625).f2) > a2 then ((gafferref02_with.f kj23 t638 t641 t642 ((rd_T35 t638 t625).f0) (((rd_T35 t638 t625).f1).extract 0 (a2 : Int).toNat) a2).bind fun bt647 => (some (bt647.1, bt647.2.1, bt647.2.2, 0))) else ((gafferref02_with.f kj23 t638 t641 t642 ((rd_T35 t638 t625).f0) (((rd_T35 t638 t625).f1).extract 0 (a2 : Int).toNat) ((rd_T35 t638 t625).f2)).bind fun bt652 => (some (bt652.1, bt652.2.1, bt652.2.2, 0)))) else (none)) else (none)) else (none)) else (none)) else (some (t638, t641, t642, 8))) = some (r1, r2, r3, r4) := H
          have A28 := Aside0.mk A280
          clear A280
          by_cases c29 : t643 = true
          ·subst c29
           have H1 : (if 0 ≤ t625 then (if t625 < (t638.length : Int) then (if 0 ≤ a2 then (if a2 ≤ (((rd_T35 t638 t625).f1).size : Int) then (if ((rd_T35 t638 t625).f2) > a2 then ((gafferref02_with.f kj23 t638 t641 t642 ((rd_T35 t638 t625).f0) (((rd_T35 t638 t625).f1).extract 0 (a2 : Int).toNat) a2).bind fun bt647 => (some (bt647.1, bt647.2.1, bt647.2.2, 0))) else ((gafferref02_with.f kj23 t638 t641 t642 ((rd_T35 t638 t625).f0) (((rd_T35 t638 t625).f1).extract 0 (a2 : Int).toNat) ((rd_T35 t638 t625).f2)).bind fun bt652 => (some (bt652.1, bt652.2.1, bt652.2.2, 0)))) else (none)) else (none)) else (none)) else (none)) = some (r1, r2, r3, r4) := by rw [if_pos rfl] at H; exact H
           clear H
           have H := H1
           clear H1
           by_cases c30 : 0 ≤ t625
           ·rw [if_pos c30] at H
            have c30b0 : decide (0 ≤ t625) = true := decide_eq_true c30
            clear c30
            by_cases c31 : t625 < (t638.length : Int)
            ·rw [if_pos c31] at H
             have c31b0 : decide (t625 < (t638.length : Int)) = true := decide_eq_true c31
             clear c31
             by_cases c32 : 0 ≤ a2
             ·rw [if_pos c32] at H
              have c32b0 := eq_true c32
              have c32b1 : decide (0 ≤ a2) = true := decide_eq_true c32
              clear c32
              by_cases c33 : a2 ≤ (((rd_T35 t638 t625).f1).size : Int)
              ·rw [if_pos c33] at H
               have c33b0 := eq_true c33
               have c33b1 : decide (a2 ≤ (((rd_T35 t638 t625).f1).size : Int)) = true := decide_eq_true c33
               clear c33
               by_cases c34 : ((rd_T35 t638 t625).f2) > a2
               ·rw [if_pos c34] at H
                have c34b0 : decide (a2 < ((rd_T35 t638 t625).f2)) = true := decide_eq_true c34
                clear c34
                replace H := Option.bind_eq_some_iff.mp H
                obtain ⟨⟨t647, t650, t651⟩, A350, H⟩ := H
                replace H : (some (t647, t650, t651, 0)) = some (r1, r2, r3, r4) := H
                have A35 := Aside0.mk A350
                clear A350
                simp only [Option.some.injEq, Prod.mk.injEq] at H
                obtain ⟨rfl, rfl, rfl, rfl⟩ := H
                have hnb36 := NB622_623.out
                have hnc36 := NB623_622.out
                obtain ⟨hcz37_0, hcz37_1, hcz37_2, hfz37_0, hfz37_1, hfz37_2⟩ := c3_ BK622
                go_wp2_with (first | ((with_reducible refine gate_callee (f := 11) rfl ?_); refine goesL_ (some 50) rfl rfl Try.func11 (by kernel_rfl) rfl #[.agg #[.slice A0_0 l0_0.length c0_0, .bool a0_1, .int .i64 a0_2]] rfl (ar_) ?_; (with_reducible refine (gafferref02_Copy.calls _ _ l0_0 a0_1 a0_2 t633 t636 t637 _ ?side1 ?side2 A27.out).mono ?_); (case side1 => repeat (first | exact (Kd.C_below HR0_0.out HB.out) | (with_reducible refine Kd.C_alloc ?_ _) | (with_reducible refine Kd.C_drewN ?_ _) | (with_reducible refine Kd.C_drew ?_))); (case side2 => exact HC0_0.out); rintro e w38 ⟨v634, rfl, ho0, hb⟩; refine ⟨_, rfl, ?_⟩; have HO635 := Aside0.mk (Kd.R_lower ho0 (below_size (bl_2 HB GE622 GE623))); replace BK622 := Aside0.mk (bb_ BK622 hb); replace BK623 := Aside0.mk (bb_ BK623 hb); replace HB := Aside0.mk (below_step (bl_2 HB GE622 GE623) hb); (try clear hb); (try clear hb2); (try clear hk); (try clear hi); (try clear ho0); obtain ⟨Ao39, co39, eo39⟩ := Kd.R_slice HO635.out; subst eo39) | ((with_reducible refine gate_callee (f := 40) rfl ?_); refine goesL_ (some 51) rfl rfl Try.func40 (by kernel_rfl) rfl #[.agg #[.slice Ao39 t633.length co39, .bool t636, .int .i64 t637]] rfl (ar_) ?_; (with_reducible refine (gafferref02_burnt.calls (fun k_ => some k_ = (.slice Ao39 t633.length co39 : Value).ownBlock) (.slice Ao39 t633.length co39) t633 t636 t637 t638 t641 t642 true w _ ?side1 ?side2 A28.out).mono ?_); (case side1 => repeat (first | (with_reducible first | exact HB.out | apply below_alloc | apply pw_below_drewN | apply below_drew1 | refine below_set ?_ GE622.out | refine below_set ?_ GE623.out) | exact HB.out)); (case side2 => exact Kd.R_tight rfl HO635.out); rintro e w40 ⟨v639, rfl, ho0, hb, hkp⟩; refine ⟨_, rfl, ?_⟩; replace BK622 := Aside0.mk (blk_kept (bk_ BK622) hkp (fun hs_ => (fun e_ => (Kd.R_ne HO635.out BK622.out (by decide)) e_) hs_)); replace BK623 := Aside0.mk (blk_kept (bk_ BK623) hkp (fun hs_ => (fun e_ => (Kd.R_ne HO635.out BK623.out (by decide)) e_) hs_)); have HO640 := Aside0.mk (Kd.R_mono (ok' := fun k_ => True) ho0 (fun k_ hk_ => trivial)); replace HB := Aside0.mk (hb); clear HO635; (try clear hb); (try clear hkp); (try clear ho0)) | ((with_reducible refine gate_dst (N := 10) rfl ?_); (try (refine gate_guard (by rfl) ?_; dsimp only)); refine box_event ?hg (N := 10) ?hd (cs := #[.slice none 0 0, .bool false, .int .i64 0]) (t := 24) ?hr ?_; (case hd => rfl); (case hg => rfl); (case hr => first | (go_simp; done) | (go_simp; rfl)); intro gb644 hg w41 hbox hb; replace HO640 := Aside0.mk (Kd.R_below (by (with_reducible repeat (first | apply Kd.R_alloc | apply Kd.R_drewN | apply Kd.R_drew)); exact HO640.out) hb); have BK644 := Aside0.mk (hbox); have GW644 := Aside0.mk (bs_2 hg HB GE622 GE623); have GE644 := Aside0.mk (bs_2 hg HB GE622 GE623); replace HB := Aside0.mk (below_step (bl_2 HB GE622 GE623) hb); have NB622_644 := Aside0.mk (nb_ hg BK622); have NB644_622 := Aside0.mk (nc_ hg BK622); replace BK622 := Aside0.mk (bb_ BK622 hb); have NB623_644 := Aside0.mk (nb_ hg BK623); have NB644_623 := Aside0.mk (nc_ hg BK623); replace BK623 := Aside0.mk (bb_ BK623 hb); clear hb hbox hg; obtain ⟨Ao42, co42, eo42⟩ := Kd.R_slice HO640.out; subst eo42; have hnb43 := NB644_622.out; have hnc43 := NB622_644.out; have hnb44 := NB644_623.out; have hnc44 := NB623_644.out; obtain ⟨hcz45_0, hcz45_1, hcz45_2, hfz45_0, hfz45_1, hfz45_2⟩ := c3_ BK644; have p645 : 0 ≤ (t625 : Int) := of_decide_eq_true (by first | (with_reducible assumption) | assumption); have q645 : t625 < (t638.length : Int) := of_decide_eq_true (by first | (with_reducible assumption) | assumption); obtain ⟨ad645, e645, hx645_0, hx645_1, hx645_2⟩ := at_T35 (Kd.R_reads' HO640.out).2.2 t625 p645 q645; cases e645; have hn645_0 : ad645.block ≠ gb644 := Kd.own_blk (Kd.R_ne HO640.out BK644.out (by decide)); have hn645_1 : ad645.block ≠ gb644 := Kd.own_blk (Kd.R_ne HO640.out BK644.out (by decide)); have hn645_2 : ad645.block ≠ gb644 := Kd.own_blk (Kd.R_ne HO640.out BK644.out (by decide)); replace hx645_0 := (cf_ (p := ⟨gb644, 0, none⟩) hn645_0 (.slice (some ad645) t638.length co42)).trans hx645_0; replace hx645_1 := (cf_ (p := ⟨gb644, 0, none⟩) hn645_0 (.slice (some ad645) t638.length co42)).trans hx645_1; replace hx645_2 := (cf_ (p := ⟨gb644, 0, none⟩) hn645_0 (.slice (some ad645) t638.length co42)).trans hx645_2; replace hx645_0 := (cf_ (p := ⟨gb644, 1, none⟩) hn645_1 (.bool t641)).trans hx645_0; replace hx645_1 := (cf_ (p := ⟨gb644, 1, none⟩) hn645_1 (.bool t641)).trans hx645_1; replace hx645_2 := (cf_ (p := ⟨gb644, 1, none⟩) hn645_1 (.bool t641)).trans hx645_2; replace hx645_0 := (cf_ (p := ⟨gb644, 2, none⟩) hn645_2 (.int .i64 t642)).trans hx645_0; replace hx645_1 := (cf_ (p := ⟨gb644, 2, none⟩) hn645_2 (.int .i64 t642)).trans hx645_1; replace hx645_2 := (cf_ (p := ⟨gb644, 2, none⟩) hn645_2 (.int .i64 t642)).trans hx645_2; clear hn645_0; clear hn645_1; clear hn645_2; replace p645 := eq_true p645; replace q645 := eq_true q645) | ((with_reducible refine gate_dst (N := 12) rfl ?_); (try (refine gate_guard (by rfl) ?_; dsimp only)); refine box_event ?hg (N := 12) ?hd (cs := #[.string (⟨#[]⟩ : ByteArray), .string (⟨#[]⟩ : ByteArray), .int .i64 0]) (t := 35) ?hr ?_; (case hd => rfl); (case hg => rfl); (case hr => first | (go_simp; done) | (go_simp; rfl)); intro gb646 hg w46 hbox hb; replace HO640 := Aside0.mk (Kd.R_below (Kd.R_elderB (by (with_reducible repeat (first | apply Kd.R_alloc | apply Kd.R_drewN | apply Kd.R_drew)); exact (Kd.R_mono (Kd.R_far (p := ⟨gb644, 2, none⟩) (Kd.R_far (p := ⟨gb644, 1, none⟩) (Kd.R_far (p := ⟨gb644, 0, none⟩) (Kd.R_types HO640.out BK644.out (by decide)) (fun _ hk => hk.2) (.slice (some ad645) t638.length co42)) (fun _ hk => hk.2) (.bool t641)) (fun _ hk => hk.2) (.int .i64 t642)) (fun _ h_ => h_.1))) gb646 (Nat.le_of_eq hg.symm)) hb); have BK646 := Aside0.mk (hbox); have GW646 := Aside0.mk (bs_3 hg HB GE622 GE623 GE644); have GE646 := Aside0.mk (bs_3 hg HB GE622 GE623 GE644); replace HB := Aside0.mk (below_step (bl_3 HB GE622 GE623 GE644) hb); have NB622_646 := Aside0.mk ((by rw [hg]; exact Nat.ne_of_lt (blk_lt (g := gb622) (o := .cells #[.slice A0_0 l0_0.length c0_0, .bool a0_1, .int .i64 a0_2] 24 (0, 0)) (bp_1 BK622 NB622_644)) : gb622 ≠ gb646)); have NB646_622 := Aside0.mk ((by rw [hg]; exact Nat.ne_of_gt (blk_lt (g := gb622) (o := .cells #[.slice A0_0 l0_0.length c0_0, .bool a0_1, .int .i64 a0_2] 24 (0, 0)) (bp_1 BK622 NB622_644)) : gb646 ≠ gb622)); replace BK622 := Aside0.mk (blk_below (g := gb622) (o := .cells #[.slice A0_0 l0_0.length c0_0, .bool a0_1, .int .i64 a0_2] 24 (0, 0)) (bp_1 BK622 NB622_644) hb); have NB623_646 := Aside0.mk ((by rw [hg]; exact Nat.ne_of_lt (blk_lt (g := gb623) (o := .cells #[.slice none 0 0, .bool false, .int .i64 0] 24 (0, 0)) (bp_1 BK623 NB623_644)) : gb623 ≠ gb646)); have NB646_623 := Aside0.mk ((by rw [hg]; exact Nat.ne_of_gt (blk_lt (g := gb623) (o := .cells #[.slice none 0 0, .bool false, .int .i64 0] 24 (0, 0)) (bp_1 BK623 NB623_644)) : gb646 ≠ gb623)); replace BK623 := Aside0.mk (blk_below (g := gb623) (o := .cells #[.slice none 0 0, .bool false, .int .i64 0] 24 (0, 0)) (bp_1 BK623 NB623_644) hb); have NB644_646 := Aside0.mk ((by rw [hg]; exact Nat.ne_of_lt (blk_lt (g := gb644) (o := .cells #[.slice (some ad645) t638.length co42, .bool t641, .int .i64 t642] 24 (0, 0)) (bp_0 BK644)) : gb644 ≠ gb646)); have NB646_644 := Aside0.mk ((by rw [hg]; exact Nat.ne_of_gt (blk_lt (g := gb644) (o := .cells #[.slice (some ad645) t638.length co42, .bool t641, .int .i64 t642] 24 (0, 0)) (bp_0 BK644)) : gb646 ≠ gb644)); replace BK644 := Aside0.mk (blk_below (g := gb644) (o := .cells #[.slice (some ad645) t638.length co42, .bool t641, .int .i64 t642] 24 (0, 0)) (bp_0 BK644) hb); clear hb hbox hg; have hnb47 := NB646_622.out; have hnc47 := NB622_646.out; have hnb48 := NB646_623.out; have hnc48 := NB623_646.out; have hnb49 := NB646_644.out; have hnc49 := NB644_646.out; obtain ⟨hcz50_0, hcz50_1, hcz50_2, hfz50_0, hfz50_1, hfz50_2⟩ := c3_ BK646; obtain ⟨hcz51_0, hcz51_1, hcz51_2, hfz51_0, hfz51_1, hfz51_2⟩ := c3_ BK644) | ((with_reducible refine gate_callee (f := 41) rfl ?_); refine goesL_ (some 75) rfl rfl Try.func41 (by kernel_rfl) rfl #[.agg #[.slice (some ad645) t638.length co42, .bool t641, .int .i64 t642], .agg #[.string ((rd_T35 t638 t625).f0), .string (((rd_T35 t638 t625).f1).extract 0 (a2 : Int).toNat), .int .i64 a2]] rfl (ar_) ?_; (with_reducible refine (gafferref02_with.calls kj23 _ _ t638 t641 t642 ((rd_T35 t638 t625).f0) (((rd_T35 t638 t625).f1).extract 0 (a2 : Int).toNat) a2 t647 t650 t651 _ ?side1 ?side2 A35.out).mono ?_); (case side1 => refine (Kd.R_reads' (e := 35) (base := w.heap.size) (ok := fun k_ => (True ∧ k_ ≠ gb646)) (n := t638.length) (c := co42) ?_).2.2; exact (by (with_reducible repeat (first | apply Kd.R_alloc | apply Kd.R_drewN | apply Kd.R_drew)); exact (Kd.R_mono (Kd.R_far (p := ⟨gb646, 2, none⟩) (Kd.R_far (p := ⟨gb646, 1, none⟩) (Kd.R_far (p := ⟨gb646, 2, none⟩) (Kd.R_far (p := ⟨gb646, 1, none⟩) (Kd.R_far (p := ⟨gb646, 0, none⟩) (Kd.R_mono HO640.out (fun k_ hk => (⟨hk, hk.2⟩ : _ ∧ k_ ≠ gb646))) (fun _ hk => hk.2) (.string ((rd_T35 t638 t625).f0))) (fun _ hk => hk.2) (.string ((rd_T35 t638 t625).f1))) (fun _ hk => hk.2) (.int .i64 ((rd_T35 t638 t625).f2))) (fun _ hk => hk.2) (.string (((rd_T35 t638 t625).f1).extract 0 (a2 : Int).toNat))) (fun _ hk => hk.2) (.int .i64 a2)) (fun _ h_ => h_.1)))); (case side2 => exact (Kd.R_reads' HO640.out).2.1); rintro e w52 ⟨v648, rfl, ho0, hb⟩; refine ⟨_, rfl, ?_⟩; have HO649 := Aside0.mk (Kd.R_lower (Kd.R_newB (Kd.R_new' ho0 (Kd.R_lt (by (with_reducible repeat (first | apply Kd.R_alloc | apply Kd.R_drewN | apply Kd.R_drew)); exact (Kd.R_mono (Kd.R_far (p := ⟨gb646, 2, none⟩) (Kd.R_far (p := ⟨gb646, 1, none⟩) (Kd.R_far (p := ⟨gb646, 2, none⟩) (Kd.R_far (p := ⟨gb646, 1, none⟩) (Kd.R_far (p := ⟨gb646, 0, none⟩) (Kd.R_mono HO640.out (fun k_ hk => (⟨hk, hk.2⟩ : _ ∧ k_ ≠ gb646))) (fun _ hk => hk.2) (.string ((rd_T35 t638 t625).f0))) (fun _ hk => hk.2) (.string ((rd_T35 t638 t625).f1))) (fun _ hk => hk.2) (.int .i64 ((rd_T35 t638 t625).f2))) (fun _ hk => hk.2) (.string (((rd_T35 t638 t625).f1).extract 0 (a2 : Int).toNat))) (fun _ hk => hk.2) (.int .i64 a2)) (fun _ h_ => h_.1))))) (g := gb646) (o := .cells #[.string ((rd_T35 t638 t625).f0), .string (((rd_T35 t638 t625).f1).extract 0 (a2 : Int).toNat), .int .i64 a2] 35 (0, 0)) (bp_0 BK646)) (below_size (bl_4 HB GE622 GE623 GE644 GE646))); replace HO640 := Aside0.mk (Kd.R_elder' (by (with_reducible repeat (first | apply Kd.R_alloc | apply Kd.R_drewN | apply Kd.R_drew)); exact (Kd.R_mono (Kd.R_far (p := ⟨gb646, 2, none⟩) (Kd.R_far (p := ⟨gb646, 1, none⟩) (Kd.R_far (p := ⟨gb646, 2, none⟩) (Kd.R_far (p := ⟨gb646, 1, none⟩) (Kd.R_far (p := ⟨gb646, 0, none⟩) (Kd.R_mono HO640.out (fun k_ hk => (⟨hk, hk.2⟩ : _ ∧ k_ ≠ gb646))) (fun _ hk => hk.2) (.string ((rd_T35 t638 t625).f0))) (fun _ hk => hk.2) (.string ((rd_T35 t638 t625).f1))) (fun _ hk => hk.2) (.int .i64 ((rd_T35 t638 t625).f2))) (fun _ hk => hk.2) (.string (((rd_T35 t638 t625).f1).extract 0 (a2 : Int).toNat))) (fun _ hk => hk.2) (.int .i64 a2)) (fun _ h_ => h_.1))) (Kd.R_base ho0) hb); replace BK622 := Aside0.mk (blk_below (g := gb622) (o := .cells #[.slice A0_0 l0_0.length c0_0, .bool a0_1, .int .i64 a0_2] 24 (0, 0)) (bp_1 BK622 NB622_646) hb); replace BK623 := Aside0.mk (blk_below (g := gb623) (o := .cells #[.slice none 0 0, .bool false, .int .i64 0] 24 (0, 0)) (bp_1 BK623 NB623_646) hb); replace BK644 := Aside0.mk (blk_below (g := gb644) (o := .cells #[.slice (some ad645) t638.length co42, .bool t641, .int .i64 t642] 24 (0, 0)) (bp_1 BK644 NB644_646) hb); replace BK646 := Aside0.mk (blk_below (g := gb646) (o := .cells #[.string ((rd_T35 t638 t625).f0), .string (((rd_T35 t638 t625).f1).extract 0 (a2 : Int).toNat), .int .i64 a2] 35 (0, 0)) (bp_0 BK646) hb); replace HB := Aside0.mk (below_step (bl_4 HB GE622 GE623 GE644 GE646) hb); (try clear hb); (try clear hb2); (try clear hk); (try clear hi); (try clear ho0); obtain ⟨Ao53, co53, eo53⟩ := Kd.R_slice HO649.out; subst eo53; obtain ⟨hcz54_0, hcz54_1, hcz54_2, hfz54_0, hfz54_1, hfz54_2⟩ := c3_ BK623))
                refine bodyPost_ret (results_ct rfl _ _ gb623 24 #[.slice Ao53 t647.length co53, .bool t650, .int .i64 t651] (0, 0) _ rfl (bp_0 BK623) Try.underlying24 rfl (by kernel_rfl)) rfl ?_
                exact ⟨_, by first | rfl | (simp; done) | (simp [*]; done), by (with_reducible repeat (first | apply Kd.R_alloc | apply Kd.R_drewN | apply Kd.R_drew)); exact Kd.R_mono (Kd.R_far (p := ⟨gb623, 2, none⟩) (Kd.R_far (p := ⟨gb623, 1, none⟩) (Kd.R_far (p := ⟨gb623, 0, none⟩) (Kd.R_types HO649.out BK623.out (by decide)) (fun _ hk => hk.2) (.slice Ao53 t647.length co53)) (fun _ hk => hk.2) (.bool t650)) (fun _ hk => hk.2) (.int .i64 t651)) (fun _ hk => trivial), bl_4 HB GE622 GE623 GE644 GE646⟩
               ·rw [if_neg c34] at H
                have c34b0 : decide (a2 < ((rd_T35 t638 t625).f2)) = false := decide_eq_false c34
                clear c34
                replace H := Option.bind_eq_some_iff.mp H
                obtain ⟨⟨t652, t655, t656⟩, A550, H⟩ := H
                replace H : (some (t652, t655, t656, 0)) = some (r1, r2, r3, r4) := H
                have A55 := Aside0.mk A550
                clear A550
                simp only [Option.some.injEq, Prod.mk.injEq] at H
                obtain ⟨rfl, rfl, rfl, rfl⟩ := H
                have hnb56 := NB622_623.out
                have hnc56 := NB623_622.out
                obtain ⟨hcz57_0, hcz57_1, hcz57_2, hfz57_0, hfz57_1, hfz57_2⟩ := c3_ BK622
                go_wp2_with (first | ((with_reducible refine gate_callee (f := 11) rfl ?_); refine goesL_ (some 50) rfl rfl Try.func11 (by kernel_rfl) rfl #[.agg #[.slice A0_0 l0_0.length c0_0, .bool a0_1, .int .i64 a0_2]] rfl (ar_) ?_; (with_reducible refine (gafferref02_Copy.calls _ _ l0_0 a0_1 a0_2 t633 t636 t637 _ ?side1 ?side2 A27.out).mono ?_); (case side1 => repeat (first | exact (Kd.C_below HR0_0.out HB.out) | (with_reducible refine Kd.C_alloc ?_ _) | (with_reducible refine Kd.C_drewN ?_ _) | (with_reducible refine Kd.C_drew ?_))); (case side2 => exact HC0_0.out); rintro e w58 ⟨v634, rfl, ho0, hb⟩; refine ⟨_, rfl, ?_⟩; have HO635 := Aside0.mk (Kd.R_lower ho0 (below_size (bl_2 HB GE622 GE623))); replace BK622 := Aside0.mk (bb_ BK622 hb); replace BK623 := Aside0.mk (bb_ BK623 hb); replace HB := Aside0.mk (below_step (bl_2 HB GE622 GE623) hb); (try clear hb); (try clear hb2); (try clear hk); (try clear hi); (try clear ho0); obtain ⟨Ao59, co59, eo59⟩ := Kd.R_slice HO635.out; subst eo59) | ((with_reducible refine gate_callee (f := 40) rfl ?_); refine goesL_ (some 51) rfl rfl Try.func40 (by kernel_rfl) rfl #[.agg #[.slice Ao59 t633.length co59, .bool t636, .int .i64 t637]] rfl (ar_) ?_; (with_reducible refine (gafferref02_burnt.calls (fun k_ => some k_ = (.slice Ao59 t633.length co59 : Value).ownBlock) (.slice Ao59 t633.length co59) t633 t636 t637 t638 t641 t642 true w _ ?side1 ?side2 A28.out).mono ?_); (case side1 => repeat (first | (with_reducible first | exact HB.out | apply below_alloc | apply pw_below_drewN | apply below_drew1 | refine below_set ?_ GE622.out | refine below_set ?_ GE623.out) | exact HB.out)); (case side2 => exact Kd.R_tight rfl HO635.out); rintro e w60 ⟨v639, rfl, ho0, hb, hkp⟩; refine ⟨_, rfl, ?_⟩; replace BK622 := Aside0.mk (blk_kept (bk_ BK622) hkp (fun hs_ => (fun e_ => (Kd.R_ne HO635.out BK622.out (by decide)) e_) hs_)); replace BK623 := Aside0.mk (blk_kept (bk_ BK623) hkp (fun hs_ => (fun e_ => (Kd.R_ne HO635.out BK623.out (by decide)) e_) hs_)); have HO640 := Aside0.mk (Kd.R_mono (ok' := fun k_ => True) ho0 (fun k_ hk_ => trivial)); replace HB := Aside0.mk (hb); clear HO635; (try clear hb); (try clear hkp); (try clear ho0)) | ((with_reducible refine gate_dst (N := 10) rfl ?_); (try (refine gate_guard (by rfl) ?_; dsimp only)); refine box_event ?hg (N := 10) ?hd (cs := #[.slice none 0 0, .bool false, .int .i64 0]) (t := 24) ?hr ?_; (case hd => rfl); (case hg => rfl); (case hr => first | (go_simp; done) | (go_simp; rfl)); intro gb644 hg w61 hbox hb; replace HO640 := Aside0.mk (Kd.R_below (by (with_reducible repeat (first | apply Kd.R_alloc | apply Kd.R_drewN | apply Kd.R_drew)); exact HO640.out) hb); have BK644 := Aside0.mk (hbox); have GW644 := Aside0.mk (bs_2 hg HB GE622 GE623); have GE644 := Aside0.mk (bs_2 hg HB GE622 GE623); replace HB := Aside0.mk (below_step (bl_2 HB GE622 GE623) hb); have NB622_644 := Aside0.mk (nb_ hg BK622); have NB644_622 := Aside0.mk (nc_ hg BK622); replace BK622 := Aside0.mk (bb_ BK622 hb); have NB623_644 := Aside0.mk (nb_ hg BK623); have NB644_623 := Aside0.mk (nc_ hg BK623); replace BK623 := Aside0.mk (bb_ BK623 hb); clear hb hbox hg; obtain ⟨Ao62, co62, eo62⟩ := Kd.R_slice HO640.out; subst eo62; have hnb63 := NB644_622.out; have hnc63 := NB622_644.out; have hnb64 := NB644_623.out; have hnc64 := NB623_644.out; obtain ⟨hcz65_0, hcz65_1, hcz65_2, hfz65_0, hfz65_1, hfz65_2⟩ := c3_ BK644; have p645 : 0 ≤ (t625 : Int) := of_decide_eq_true (by first | (with_reducible assumption) | assumption); have q645 : t625 < (t638.length : Int) := of_decide_eq_true (by first | (with_reducible assumption) | assumption); obtain ⟨ad645, e645, hx645_0, hx645_1, hx645_2⟩ := at_T35 (Kd.R_reads' HO640.out).2.2 t625 p645 q645; cases e645; have hn645_0 : ad645.block ≠ gb644 := Kd.own_blk (Kd.R_ne HO640.out BK644.out (by decide)); have hn645_1 : ad645.block ≠ gb644 := Kd.own_blk (Kd.R_ne HO640.out BK644.out (by decide)); have hn645_2 : ad645.block ≠ gb644 := Kd.own_blk (Kd.R_ne HO640.out BK644.out (by decide)); replace hx645_0 := (cf_ (p := ⟨gb644, 0, none⟩) hn645_0 (.slice (some ad645) t638.length co62)).trans hx645_0; replace hx645_1 := (cf_ (p := ⟨gb644, 0, none⟩) hn645_0 (.slice (some ad645) t638.length co62)).trans hx645_1; replace hx645_2 := (cf_ (p := ⟨gb644, 0, none⟩) hn645_0 (.slice (some ad645) t638.length co62)).trans hx645_2; replace hx645_0 := (cf_ (p := ⟨gb644, 1, none⟩) hn645_1 (.bool t641)).trans hx645_0; replace hx645_1 := (cf_ (p := ⟨gb644, 1, none⟩) hn645_1 (.bool t641)).trans hx645_1; replace hx645_2 := (cf_ (p := ⟨gb644, 1, none⟩) hn645_1 (.bool t641)).trans hx645_2; replace hx645_0 := (cf_ (p := ⟨gb644, 2, none⟩) hn645_2 (.int .i64 t642)).trans hx645_0; replace hx645_1 := (cf_ (p := ⟨gb644, 2, none⟩) hn645_2 (.int .i64 t642)).trans hx645_1; replace hx645_2 := (cf_ (p := ⟨gb644, 2, none⟩) hn645_2 (.int .i64 t642)).trans hx645_2; clear hn645_0; clear hn645_1; clear hn645_2; replace p645 := eq_true p645; replace q645 := eq_true q645) | ((with_reducible refine gate_dst (N := 12) rfl ?_); (try (refine gate_guard (by rfl) ?_; dsimp only)); refine box_event ?hg (N := 12) ?hd (cs := #[.string (⟨#[]⟩ : ByteArray), .string (⟨#[]⟩ : ByteArray), .int .i64 0]) (t := 35) ?hr ?_; (case hd => rfl); (case hg => rfl); (case hr => first | (go_simp; done) | (go_simp; rfl)); intro gb646 hg w66 hbox hb; replace HO640 := Aside0.mk (Kd.R_below (Kd.R_elderB (by (with_reducible repeat (first | apply Kd.R_alloc | apply Kd.R_drewN | apply Kd.R_drew)); exact (Kd.R_mono (Kd.R_far (p := ⟨gb644, 2, none⟩) (Kd.R_far (p := ⟨gb644, 1, none⟩) (Kd.R_far (p := ⟨gb644, 0, none⟩) (Kd.R_types HO640.out BK644.out (by decide)) (fun _ hk => hk.2) (.slice (some ad645) t638.length co62)) (fun _ hk => hk.2) (.bool t641)) (fun _ hk => hk.2) (.int .i64 t642)) (fun _ h_ => h_.1))) gb646 (Nat.le_of_eq hg.symm)) hb); have BK646 := Aside0.mk (hbox); have GW646 := Aside0.mk (bs_3 hg HB GE622 GE623 GE644); have GE646 := Aside0.mk (bs_3 hg HB GE622 GE623 GE644); replace HB := Aside0.mk (below_step (bl_3 HB GE622 GE623 GE644) hb); have NB622_646 := Aside0.mk ((by rw [hg]; exact Nat.ne_of_lt (blk_lt (g := gb622) (o := .cells #[.slice A0_0 l0_0.length c0_0, .bool a0_1, .int .i64 a0_2] 24 (0, 0)) (bp_1 BK622 NB622_644)) : gb622 ≠ gb646)); have NB646_622 := Aside0.mk ((by rw [hg]; exact Nat.ne_of_gt (blk_lt (g := gb622) (o := .cells #[.slice A0_0 l0_0.length c0_0, .bool a0_1, .int .i64 a0_2] 24 (0, 0)) (bp_1 BK622 NB622_644)) : gb646 ≠ gb622)); replace BK622 := Aside0.mk (blk_below (g := gb622) (o := .cells #[.slice A0_0 l0_0.length c0_0, .bool a0_1, .int .i64 a0_2] 24 (0, 0)) (bp_1 BK622 NB622_644) hb); have NB623_646 := Aside0.mk ((by rw [hg]; exact Nat.ne_of_lt (blk_lt (g := gb623) (o := .cells #[.slice none 0 0, .bool false, .int .i64 0] 24 (0, 0)) (bp_1 BK623 NB623_644)) : gb623 ≠ gb646)); have NB646_623 := Aside0.mk ((by rw [hg]; exact Nat.ne_of_gt (blk_lt (g := gb623) (o := .cells #[.slice none 0 0, .bool false, .int .i64 0] 24 (0, 0)) (bp_1 BK623 NB623_644)) : gb646 ≠ gb623)); replace BK623 := Aside0.mk (blk_below (g := gb623) (o := .cells #[.slice none 0 0, .bool false, .int .i64 0] 24 (0, 0)) (bp_1 BK623 NB623_644) hb); have NB644_646 := Aside0.mk ((by rw [hg]; exact Nat.ne_of_lt (blk_lt (g := gb644) (o := .cells #[.slice (some ad645) t638.length co62, .bool t641, .int .i64 t642] 24 (0, 0)) (bp_0 BK644)) : gb644 ≠ gb646)); have NB646_644 := Aside0.mk ((by rw [hg]; exact Nat.ne_of_gt (blk_lt (g := gb644) (o := .cells #[.slice (some ad645) t638.length co62, .bool t641, .int .i64 t642] 24 (0, 0)) (bp_0 BK644)) : gb646 ≠ gb644)); replace BK644 := Aside0.mk (blk_below (g := gb644) (o := .cells #[.slice (some ad645) t638.length co62, .bool t641, .int .i64 t642] 24 (0, 0)) (bp_0 BK644) hb); clear hb hbox hg; have hnb67 := NB646_622.out; have hnc67 := NB622_646.out; have hnb68 := NB646_623.out; have hnc68 := NB623_646.out; have hnb69 := NB646_644.out; have hnc69 := NB644_646.out; obtain ⟨hcz70_0, hcz70_1, hcz70_2, hfz70_0, hfz70_1, hfz70_2⟩ := c3_ BK646; obtain ⟨hcz71_0, hcz71_1, hcz71_2, hfz71_0, hfz71_1, hfz71_2⟩ := c3_ BK644) | ((with_reducible refine gate_callee (f := 41) rfl ?_); refine goesL_ (some 75) rfl rfl Try.func41 (by kernel_rfl) rfl #[.agg #[.slice (some ad645) t638.length co62, .bool t641, .int .i64 t642], .agg #[.string ((rd_T35 t638 t625).f0), .string (((rd_T35 t638 t625).f1).extract 0 (a2 : Int).toNat), .int .i64 ((rd_T35 t638 t625).f2)]] rfl (ar_) ?_; (with_reducible refine (gafferref02_with.calls kj23 _ _ t638 t641 t642 ((rd_T35 t638 t625).f0) (((rd_T35 t638 t625).f1).extract 0 (a2 : Int).toNat) ((rd_T35 t638 t625).f2) t652 t655 t656 _ ?side1 ?side2 A55.out).mono ?_); (case side1 => refine (Kd.R_reads' (e := 35) (base := w.heap.size) (ok := fun k_ => (True ∧ k_ ≠ gb646)) (n := t638.length) (c := co62) ?_).2.2; exact (by (with_reducible repeat (first | apply Kd.R_alloc | apply Kd.R_drewN | apply Kd.R_drew)); exact (Kd.R_mono (Kd.R_far (p := ⟨gb646, 1, none⟩) (Kd.R_far (p := ⟨gb646, 2, none⟩) (Kd.R_far (p := ⟨gb646, 1, none⟩) (Kd.R_far (p := ⟨gb646, 0, none⟩) (Kd.R_mono HO640.out (fun k_ hk => (⟨hk, hk.2⟩ : _ ∧ k_ ≠ gb646))) (fun _ hk => hk.2) (.string ((rd_T35 t638 t625).f0))) (fun _ hk => hk.2) (.string ((rd_T35 t638 t625).f1))) (fun _ hk => hk.2) (.int .i64 ((rd_T35 t638 t625).f2))) (fun _ hk => hk.2) (.string (((rd_T35 t638 t625).f1).extract 0 (a2 : Int).toNat))) (fun _ h_ => h_.1)))); (case side2 => exact (Kd.R_reads' HO640.out).2.1); rintro e w72 ⟨v653, rfl, ho0, hb⟩; refine ⟨_, rfl, ?_⟩; have HO654 := Aside0.mk (Kd.R_lower (Kd.R_newB (Kd.R_new' ho0 (Kd.R_lt (by (with_reducible repeat (first | apply Kd.R_alloc | apply Kd.R_drewN | apply Kd.R_drew)); exact (Kd.R_mono (Kd.R_far (p := ⟨gb646, 1, none⟩) (Kd.R_far (p := ⟨gb646, 2, none⟩) (Kd.R_far (p := ⟨gb646, 1, none⟩) (Kd.R_far (p := ⟨gb646, 0, none⟩) (Kd.R_mono HO640.out (fun k_ hk => (⟨hk, hk.2⟩ : _ ∧ k_ ≠ gb646))) (fun _ hk => hk.2) (.string ((rd_T35 t638 t625).f0))) (fun _ hk => hk.2) (.string ((rd_T35 t638 t625).f1))) (fun _ hk => hk.2) (.int .i64 ((rd_T35 t638 t625).f2))) (fun _ hk => hk.2) (.string (((rd_T35 t638 t625).f1).extract 0 (a2 : Int).toNat))) (fun _ h_ => h_.1))))) (g := gb646) (o := .cells #[.string ((rd_T35 t638 t625).f0), .string (((rd_T35 t638 t625).f1).extract 0 (a2 : Int).toNat), .int .i64 ((rd_T35 t638 t625).f2)] 35 (0, 0)) (bp_0 BK646)) (below_size (bl_4 HB GE622 GE623 GE644 GE646))); replace HO640 := Aside0.mk (Kd.R_elder' (by (with_reducible repeat (first | apply Kd.R_alloc | apply Kd.R_drewN | apply Kd.R_drew)); exact (Kd.R_mono (Kd.R_far (p := ⟨gb646, 1, none⟩) (Kd.R_far (p := ⟨gb646, 2, none⟩) (Kd.R_far (p := ⟨gb646, 1, none⟩) (Kd.R_far (p := ⟨gb646, 0, none⟩) (Kd.R_mono HO640.out (fun k_ hk => (⟨hk, hk.2⟩ : _ ∧ k_ ≠ gb646))) (fun _ hk => hk.2) (.string ((rd_T35 t638 t625).f0))) (fun _ hk => hk.2) (.string ((rd_T35 t638 t625).f1))) (fun _ hk => hk.2) (.int .i64 ((rd_T35 t638 t625).f2))) (fun _ hk => hk.2) (.string (((rd_T35 t638 t625).f1).extract 0 (a2 : Int).toNat))) (fun _ h_ => h_.1))) (Kd.R_base ho0) hb); replace BK622 := Aside0.mk (blk_below (g := gb622) (o := .cells #[.slice A0_0 l0_0.length c0_0, .bool a0_1, .int .i64 a0_2] 24 (0, 0)) (bp_1 BK622 NB622_646) hb); replace BK623 := Aside0.mk (blk_below (g := gb623) (o := .cells #[.slice none 0 0, .bool false, .int .i64 0] 24 (0, 0)) (bp_1 BK623 NB623_646) hb); replace BK644 := Aside0.mk (blk_below (g := gb644) (o := .cells #[.slice (some ad645) t638.length co62, .bool t641, .int .i64 t642] 24 (0, 0)) (bp_1 BK644 NB644_646) hb); replace BK646 := Aside0.mk (blk_below (g := gb646) (o := .cells #[.string ((rd_T35 t638 t625).f0), .string (((rd_T35 t638 t625).f1).extract 0 (a2 : Int).toNat), .int .i64 ((rd_T35 t638 t625).f2)] 35 (0, 0)) (bp_0 BK646) hb); replace HB := Aside0.mk (below_step (bl_4 HB GE622 GE623 GE644 GE646) hb); (try clear hb); (try clear hb2); (try clear hk); (try clear hi); (try clear ho0); obtain ⟨Ao73, co73, eo73⟩ := Kd.R_slice HO654.out; subst eo73; obtain ⟨hcz74_0, hcz74_1, hcz74_2, hfz74_0, hfz74_1, hfz74_2⟩ := c3_ BK623))
                refine bodyPost_ret (results_ct rfl _ _ gb623 24 #[.slice Ao73 t652.length co73, .bool t655, .int .i64 t656] (0, 0) _ rfl (bp_0 BK623) Try.underlying24 rfl (by kernel_rfl)) rfl ?_
                exact ⟨_, by first | rfl | (simp; done) | (simp [*]; done), by (with_reducible repeat (first | apply Kd.R_alloc | apply Kd.R_drewN | apply Kd.R_drew)); exact Kd.R_mono (Kd.R_far (p := ⟨gb623, 2, none⟩) (Kd.R_far (p := ⟨gb623, 1, none⟩) (Kd.R_far (p := ⟨gb623, 0, none⟩) (Kd.R_types HO654.out BK623.out (by decide)) (fun _ hk => hk.2) (.slice Ao73 t652.length co73)) (fun _ hk => hk.2) (.bool t655)) (fun _ hk => hk.2) (.int .i64 t656)) (fun _ hk => trivial), bl_4 HB GE622 GE623 GE644 GE646⟩
              ·rw [if_neg c33] at H
               exact absurd H (by simp)
             ·rw [if_neg c32] at H
              exact absurd H (by simp)
            ·rw [if_neg c31] at H
             exact absurd H (by simp)
           ·rw [if_neg c30] at H
            exact absurd H (by simp)
          ·replace c29 := Bool.eq_false_iff.mpr c29
           subst c29
           have H1 : (some (t638, t641, t642, 8)) = some (r1, r2, r3, r4) := by rw [if_neg (show ¬ (false = true) by decide)] at H; exact H
           clear H
           have H := H1
           clear H1
           simp only [Option.some.injEq, Prod.mk.injEq] at H
           obtain ⟨rfl, rfl, rfl, rfl⟩ := H
           have hnb75 := NB622_623.out
           have hnc75 := NB623_622.out
           obtain ⟨hcz76_0, hcz76_1, hcz76_2, hfz76_0, hfz76_1, hfz76_2⟩ := c3_ BK622
           go_wp2_with (first | ((with_reducible refine gate_callee (f := 11) rfl ?_); refine goesL_ (some 50) rfl rfl Try.func11 (by kernel_rfl) rfl #[.agg #[.slice A0_0 l0_0.length c0_0, .bool a0_1, .int .i64 a0_2]] rfl (ar_) ?_; (with_reducible refine (gafferref02_Copy.calls _ _ l0_0 a0_1 a0_2 t633 t636 t637 _ ?side1 ?side2 A27.out).mono ?_); (case side1 => repeat (first | exact (Kd.C_below HR0_0.out HB.out) | (with_reducible refine Kd.C_alloc ?_ _) | (with_reducible refine Kd.C_drewN ?_ _) | (with_reducible refine Kd.C_drew ?_))); (case side2 => exact HC0_0.out); rintro e w77 ⟨v634, rfl, ho0, hb⟩; refine ⟨_, rfl, ?_⟩; have HO635 := Aside0.mk (Kd.R_lower ho0 (below_size (bl_2 HB GE622 GE623))); replace BK622 := Aside0.mk (bb_ BK622 hb); replace BK623 := Aside0.mk (bb_ BK623 hb); replace HB := Aside0.mk (below_step (bl_2 HB GE622 GE623) hb); (try clear hb); (try clear hb2); (try clear hk); (try clear hi); (try clear ho0); obtain ⟨Ao78, co78, eo78⟩ := Kd.R_slice HO635.out; subst eo78) | ((with_reducible refine gate_callee (f := 40) rfl ?_); refine goesL_ (some 51) rfl rfl Try.func40 (by kernel_rfl) rfl #[.agg #[.slice Ao78 t633.length co78, .bool t636, .int .i64 t637]] rfl (ar_) ?_; (with_reducible refine (gafferref02_burnt.calls (fun k_ => some k_ = (.slice Ao78 t633.length co78 : Value).ownBlock) (.slice Ao78 t633.length co78) t633 t636 t637 t638 t641 t642 false w _ ?side1 ?side2 A28.out).mono ?_); (case side1 => repeat (first | (with_reducible first | exact HB.out | apply below_alloc | apply pw_below_drewN | apply below_drew1 | refine below_set ?_ GE622.out | refine below_set ?_ GE623.out) | exact HB.out)); (case side2 => exact Kd.R_tight rfl HO635.out); rintro e w79 ⟨v639, rfl, ho0, hb, hkp⟩; refine ⟨_, rfl, ?_⟩; replace BK622 := Aside0.mk (blk_kept (bk_ BK622) hkp (fun hs_ => (fun e_ => (Kd.R_ne HO635.out BK622.out (by decide)) e_) hs_)); replace BK623 := Aside0.mk (blk_kept (bk_ BK623) hkp (fun hs_ => (fun e_ => (Kd.R_ne HO635.out BK623.out (by decide)) e_) hs_)); have HO640 := Aside0.mk (Kd.R_mono (ok' := fun k_ => True) ho0 (fun k_ hk_ => trivial)); replace HB := Aside0.mk (hb); clear HO635; (try clear hb); (try clear hkp); (try clear ho0)) | ((with_reducible refine gate_dst (N := 10) rfl ?_); (try (refine gate_guard (by rfl) ?_; dsimp only)); refine box_event ?hg (N := 10) ?hd (cs := #[.slice none 0 0, .bool false, .int .i64 0]) (t := 24) ?hr ?_; (case hd => rfl); (case hg => rfl); (case hr => first | (go_simp; done) | (go_simp; rfl)); intro gb644 hg w80 hbox hb; replace HO640 := Aside0.mk (Kd.R_below (by (with_reducible repeat (first | apply Kd.R_alloc | apply Kd.R_drewN | apply Kd.R_drew)); exact HO640.out) hb); have BK644 := Aside0.mk (hbox); have GW644 := Aside0.mk (bs_2 hg HB GE622 GE623); have GE644 := Aside0.mk (bs_2 hg HB GE622 GE623); replace HB := Aside0.mk (below_step (bl_2 HB GE622 GE623) hb); have NB622_644 := Aside0.mk (nb_ hg BK622); have NB644_622 := Aside0.mk (nc_ hg BK622); replace BK622 := Aside0.mk (bb_ BK622 hb); have NB623_644 := Aside0.mk (nb_ hg BK623); have NB644_623 := Aside0.mk (nc_ hg BK623); replace BK623 := Aside0.mk (bb_ BK623 hb); clear hb hbox hg; obtain ⟨Ao81, co81, eo81⟩ := Kd.R_slice HO640.out; subst eo81; have hnb82 := NB644_622.out; have hnc82 := NB622_644.out; have hnb83 := NB644_623.out; have hnc83 := NB623_644.out; obtain ⟨hcz84_0, hcz84_1, hcz84_2, hfz84_0, hfz84_1, hfz84_2⟩ := c3_ BK644; obtain ⟨hcz85_0, hcz85_1, hcz85_2, hfz85_0, hfz85_1, hfz85_2⟩ := c3_ BK623))
           refine bodyPost_ret (results_ct rfl _ _ gb623 24 #[.slice Ao81 t638.length co81, .bool t641, .int .i64 t642] (0, 0) _ rfl (bp_1 BK623 NB623_644) Try.underlying24 rfl (by kernel_rfl)) rfl ?_
           exact ⟨_, by first | rfl | (simp; done) | (simp [*]; done), by (with_reducible repeat (first | apply Kd.R_alloc | apply Kd.R_drewN | apply Kd.R_drew)); exact Kd.R_mono (Kd.R_far (p := ⟨gb623, 2, none⟩) (Kd.R_far (p := ⟨gb623, 1, none⟩) (Kd.R_far (p := ⟨gb623, 0, none⟩) (Kd.R_far (p := ⟨gb644, 2, none⟩) (Kd.R_far (p := ⟨gb644, 1, none⟩) (Kd.R_far (p := ⟨gb644, 0, none⟩) (Kd.R_types (Kd.R_types HO640.out BK644.out (by decide)) BK623.out (by decide)) (fun _ hk => hk.1.2) (.slice Ao81 t638.length co81)) (fun _ hk => hk.1.2) (.bool t641)) (fun _ hk => hk.1.2) (.int .i64 t642)) (fun _ hk => hk.2) (.slice Ao81 t638.length co81)) (fun _ hk => hk.2) (.bool t641)) (fun _ hk => hk.2) (.int .i64 t642)) (fun _ hk => trivial), bl_3 HB GE622 GE623 GE644⟩
         ·rw [if_neg c26] at H
          have c26b0 : (x8_23 == 0) = false := beq_eq_false_iff_ne.mpr c26
          have c26b1 : (x8_23 != 0) = true := bne_iff_ne.mpr c26
          replace H := Option.bind_eq_some_iff.mp H
          obtain ⟨⟨t627, t630, t631, t632⟩, A860, H⟩ := H
          replace H : (some (t627, t630, t631, t632)) = some (r1, r2, r3, r4) := H
          have A86 := Aside0.mk A860
          clear A860
          simp only [Option.some.injEq, Prod.mk.injEq] at H
          obtain ⟨rfl, rfl, rfl, rfl⟩ := H
          have hnb87 := NB622_623.out
          have hnc87 := NB623_622.out
          obtain ⟨hcz88_0, hcz88_1, hcz88_2, hfz88_0, hfz88_1, hfz88_2⟩ := c3_ BK622
          go_wp2_with (first | ((with_reducible refine gate_callee (f := 39) rfl ?_); refine goesL_ (some 45) rfl rfl Try.func39 (by kernel_rfl) rfl #[.agg #[.slice A0_0 l0_0.length c0_0, .bool a0_1, .int .i64 a0_2], .int .i64 x8_23] rfl (ar_) ?_; (with_reducible refine (gafferref02_bad.calls _ _ l0_0 a0_1 a0_2 x8_23 t627 t630 t631 t632 _ ?side1 ?side2 A86.out).mono ?_); (case side1 => repeat (first | exact (Kd.C_below HR0_0.out HB.out) | (with_reducible refine Kd.C_alloc ?_ _) | (with_reducible refine Kd.C_drewN ?_ _) | (with_reducible refine Kd.C_drew ?_))); (case side2 => exact HC0_0.out); rintro e w89 ⟨v628, rfl, ho0, hb⟩; refine ⟨_, rfl, ?_⟩; have HO629 := Aside0.mk (Kd.R_lower ho0 (below_size (bl_2 HB GE622 GE623))); replace BK622 := Aside0.mk (bb_ BK622 hb); replace BK623 := Aside0.mk (bb_ BK623 hb); replace HB := Aside0.mk (below_step (bl_2 HB GE622 GE623) hb); (try clear hb); (try clear hb2); (try clear hk); (try clear hi); (try clear ho0); obtain ⟨Ao90, co90, eo90⟩ := Kd.R_slice HO629.out; subst eo90; obtain ⟨hcz91_0, hcz91_1, hcz91_2, hfz91_0, hfz91_1, hfz91_2⟩ := c3_ BK623))
          refine bodyPost_ret (results_ct rfl _ _ gb623 24 #[.slice Ao90 t627.length co90, .bool t630, .int .i64 t631] (0, 0) _ rfl (bp_0 BK623) Try.underlying24 rfl (by kernel_rfl)) rfl ?_
          exact ⟨_, by first | rfl | (simp; done) | (simp [*]; done), by (with_reducible repeat (first | apply Kd.R_alloc | apply Kd.R_drewN | apply Kd.R_drew)); exact Kd.R_mono (Kd.R_far (p := ⟨gb623, 2, none⟩) (Kd.R_far (p := ⟨gb623, 1, none⟩) (Kd.R_far (p := ⟨gb623, 0, none⟩) (Kd.R_types HO629.out BK623.out (by decide)) (fun _ hk => hk.2) (.slice Ao90 t627.length co90)) (fun _ hk => hk.2) (.bool t630)) (fun _ hk => hk.2) (.int .i64 t631)) (fun _ hk => trivial), bl_2 HB GE622 GE623⟩

/-! ### gafferlaw02_DiskChanges: function 7 -/
def gafferlaw02_DiskChanges.f (k : Nat) (l0_0 : List (S35)) (a0_1 : Bool) (a0_2 : Int) (a1 : ByteArray) (a2 : ByteArray) (a3 : Int) : Option (Bool) := (gafferref02_Copy.f l0_0 a0_1 a0_2).bind fun bt658 => ((disk_Add.f k bt658.1 bt658.2.1 bt658.2.2 a1 a2).bind fun bt664 => ((gafferref02_Add.f k l0_0 a0_1 a0_2 a1 a2).bind fun bt671 => ((disk_Sync.f k bt658.1 bt658.2.1 bt658.2.2 a1).bind fun bt678 => ((gafferref02_Sync.f k l0_0 a0_1 a0_2 a1).bind fun bt685 => ((disk_Cut.f k bt658.1 bt658.2.1 bt658.2.2 a1 a3).bind fun bt692 => ((gafferref02_Cut.f k l0_0 a0_1 a0_2 a1 a3).bind fun bt699 => ((gafferlaw02_lives.f k).bind fun t706 => (if t706 = true then ((gafferref02_Same.f k bt664.1 bt664.2.1 bt664.2.2.1 bt671.1 bt671.2.1 bt671.2.2.1).bind fun t707 => (if t707 = true then (if bt664.2.2.2 = bt671.2.2.2 then ((gafferref02_Same.f k bt678.1 bt678.2.1 bt678.2.2.1 bt685.1 bt685.2.1 bt685.2.2.1).bind fun t708 => (if t708 = true then (if bt678.2.2.2 = bt685.2.2.2 then ((gafferref02_Same.f k bt692.1 bt692.2.1 bt692.2.2.1 bt699.1 bt699.2.1 bt699.2.2.1).bind fun t709 => (if t709 = true then (if bt692.2.2.2 = bt699.2.2.2 then ((gafferref02_Same.f k bt658.1 bt658.2.1 bt658.2.2 l0_0 a0_1 a0_2).bind fun t710 => (some t710)) else (some false)) else (some false))) else (some false)) else (some false))) else (some false)) else (some false))) else (some false)))))))))
theorem gafferlaw02_DiskChanges.mono : ∀ a0 a1 a2 a3 a4 a5 k, LeO (gafferlaw02_DiskChanges.f k a0 a1 a2 a3 a4 a5) (gafferlaw02_DiskChanges.f (k + 1) a0 a1 a2 a3 a4 a5) := by
 intro a0 a1 a2 a3 a4 a5 k
 unfold gafferlaw02_DiskChanges.f
 repeat' first
   | (with_reducible exact disk_Add.mono _ _ _ _ _ _)
   | (with_reducible exact disk_Cut.mono _ _ _ _ _ _)
   | (with_reducible exact disk_Sync.mono _ _ _ _ _)
   | (with_reducible exact gafferlaw02_lives.mono _)
   | (with_reducible exact gafferref02_Add.mono _ _ _ _ _ _)
   | (with_reducible exact gafferref02_Cut.mono _ _ _ _ _ _)
   | (with_reducible exact gafferref02_Same.mono _ _ _ _ _ _ _)
   | (with_reducible exact gafferref02_Sync.mono _ _ _ _ _)
   | (with_reducible exact LeO.refl _)
   | (with_reducible exact LeO.none _)
   | (with_reducible refine LeO.ite ?_ ?_)
   | (with_reducible refine LeO.bind ?_ (fun _ => ?_))
   | exact disk_Add.mono _ _ _ _ _ _
   | exact disk_Cut.mono _ _ _ _ _ _
   | exact disk_Sync.mono _ _ _ _ _
   | exact gafferlaw02_lives.mono _
   | exact gafferref02_Add.mono _ _ _ _ _ _
   | exact gafferref02_Cut.mono _ _ _ _ _ _
   | exact gafferref02_Same.mono _ _ _ _ _ _ _
   | exact gafferref02_Sync.mono _ _ _ _ _
   | exact LeO.none _
   | refine LeO.ite ?_ ?_
   | refine LeO.bind ?_ (fun _ => ?_)
set_option maxHeartbeats 80000000 in
set_option maxRecDepth 100000 in
theorem gafferlaw02_DiskChanges.calls (k : Nat) (A0_0 : Option Addr) (c0_0 : Nat) (l0_0 : List (S35)) (a0_1 : Bool) (a0_2 : Int) (a1 : ByteArray) (a2 : ByteArray) (a3 : Int) (r : Bool) (w : World) (hr0_0 : Kd.C k35 w A0_0 l0_0.length l0_0) (hc0_0 : l0_0.length ≤ c0_0) (h : gafferlaw02_DiskChanges.f k l0_0 a0_1 a0_2 a1 a2 a3 = some r) (hr : r = true) :
  Calls Try.prog 7 #[.agg #[.slice A0_0 l0_0.length c0_0, .bool a0_1, .int .i64 a0_2], .string a1, .string a2, .int .i64 a3] w fun e w' => e = .returned (.bool r) ∧ Below w.heap.size w w' := by
 have hu24 := Try.underlying24
 have HR0_0 := Aside0.mk hr0_0
 have HC0_0 := Aside0.mk hc0_0
 clear hr0_0 hc0_0
 have HB := Aside0.mk (Below.refl w.heap.size w)
 have H : ((gafferref02_Copy.f l0_0 a0_1 a0_2).bind fun bt658 => ((disk_Add.f k bt658.1 bt658.2.1 bt658.2.2 a1 a2).bind fun bt664 => ((gafferref02_Add.f k l0_0 a0_1 a0_2 a1 a2).bind fun bt671 => ((disk_Sync.f k bt658.1 bt658.2.1 bt658.2.2 a1).bind fun bt678 => ((gafferref02_Sync.f k l0_0 a0_1 a0_2 a1).bind fun bt685 => ((disk_Cut.f k bt658.1 bt658.2.1 bt658.2.2 a1 a3).bind fun bt692 => ((gafferref02_Cut.f k l0_0 a0_1 a0_2 a1 a3).bind fun bt699 => ((gafferlaw02_lives.f k).bind fun t706 => (if t706 = true then ((gafferref02_Same.f k bt664.1 bt664.2.1 bt664.2.2.1 bt671.1 bt671.2.1 bt671.2.2.1).bind fun t707 => (if t707 = true then (if bt664.2.2.2 = bt671.2.2.2 then ((gafferref02_Same.f k bt678.1 bt678.2.1 bt678.2.2.1 bt685.1 bt685.2.1 bt685.2.2.1).bind fun t708 => (if t708 = true then (if bt678.2.2.2 = bt685.2.2.2 then ((gafferref02_Same.f k bt692.1 bt692.2.1 bt692.2.2.1 bt699.1 bt699.2.1 bt699.2.2.1).bind fun t709 => (if t709 = true then (if bt692.2.2.2 = bt699.2.2.2 then ((gafferref02_Same.f k bt658.1 bt658.2.1 bt658.2.2 l0_0 a0_1 a0_2).bind fun t710 => (some t710)) else (some false)) else (some false))) else (some false)) else (some false))) else (some false)) else (some false))) else (some false)))))))))) = some r := h
 clear h
 replace H := Option.bind_eq_some_iff.mp H
 obtain ⟨⟨t658, t661, t662⟩, A50, H⟩ := H
 replace H : ((disk_Add.f k t658 t661 t662 a1 a2).bind fun bt664 => ((gafferref02_Add.f k l0_0 a0_1 a0_2 a1 a2).bind fun bt671 => ((disk_Sync.f k t658 t661 t662 a1).bind fun bt678 => ((gafferref02_Sync.f k l0_0 a0_1 a0_2 a1).bind fun bt685 => ((disk_Cut.f k t658 t661 t662 a1 a3).bind fun bt692 => ((gafferref02_Cut.f k l0_0 a0_1 a0_2 a1 a3).bind fun bt699 => ((gafferlaw02_lives.f k).bind fun t706 => (if t706 = true then ((gafferref02_Same.f k bt664.1 bt664.2.1 bt664.2.2.1 bt671.1 bt671.2.1 bt671.2.2.1).bind fun t707 => (if t707 = true then (if bt664.2.2.2 = bt671.2.2.2 then ((gafferref02_Same.f k bt678.1 bt678.2.1 bt678.2.2.1 bt685.1 bt685.2.1 bt685.2.2.1).bind fun t708 => (if t708 = true then (if bt678.2.2.2 = bt685.2.2.2 then ((gafferref02_Same.f k bt692.1 bt692.2.1 bt692.2.2.1 bt699.1 bt699.2.1 bt699.2.2.1).bind fun t709 => (if t709 = true then (if bt692.2.2.2 = bt699.2.2.2 then ((gafferref02_Same.f k t658 t661 t662 l0_0 a0_1 a0_2).bind fun t710 => (some t710)) else (some false)) else (some false))) else (some false)) else (some false))) else (some false)) else (some false))) else (some false))))))))) = some r := H
 have A5 := Aside0.mk A50
 clear A50
 replace H := Option.bind_eq_some_iff.mp H
 obtain ⟨⟨t664, t667, t668, t669⟩, A60, H⟩ := H
 replace H : ((gafferref02_Add.f k l0_0 a0_1 a0_2 a1 a2).bind fun bt671 => ((disk_Sync.f k t658 t661 t662 a1).bind fun bt678 => ((gafferref02_Sync.f k l0_0 a0_1 a0_2 a1).bind fun bt685 => ((disk_Cut.f k t658 t661 t662 a1 a3).bind fun bt692 => ((gafferref02_Cut.f k l0_0 a0_1 a0_2 a1 a3).bind fun bt699 => ((gafferlaw02_lives.f k).bind fun t706 => (if t706 = true then ((gafferref02_Same.f k t664 t667 t668 bt671.1 bt671.2.1 bt671.2.2.1).bind fun t707 => (if t707 = true then (if t669 = bt671.2.2.2 then ((gafferref02_Same.f k bt678.1 bt678.2.1 bt678.2.2.1 bt685.1 bt685.2.1 bt685.2.2.1).bind fun t708 => (if t708 = true then (if bt678.2.2.2 = bt685.2.2.2 then ((gafferref02_Same.f k bt692.1 bt692.2.1 bt692.2.2.1 bt699.1 bt699.2.1 bt699.2.2.1).bind fun t709 => (if t709 = true then (if bt692.2.2.2 = bt699.2.2.2 then ((gafferref02_Same.f k t658 t661 t662 l0_0 a0_1 a0_2).bind fun t710 => (some t710)) else (some false)) else (some false))) else (some false)) else (some false))) else (some false)) else (some false))) else (some false)))))))) = some r := H
 have A6 := Aside0.mk A60
 clear A60
 replace H := Option.bind_eq_some_iff.mp H
 obtain ⟨⟨t671, t674, t675, t676⟩, A70, H⟩ := H
 replace H : ((disk_Sync.f k t658 t661 t662 a1).bind fun bt678 => ((gafferref02_Sync.f k l0_0 a0_1 a0_2 a1).bind fun bt685 => ((disk_Cut.f k t658 t661 t662 a1 a3).bind fun bt692 => ((gafferref02_Cut.f k l0_0 a0_1 a0_2 a1 a3).bind fun bt699 => ((gafferlaw02_lives.f k).bind fun t706 => (if t706 = true then ((gafferref02_Same.f k t664 t667 t668 t671 t674 t675).bind fun t707 => (if t707 = true then (if t669 = t676 then ((gafferref02_Same.f k bt678.1 bt678.2.1 bt678.2.2.1 bt685.1 bt685.2.1 bt685.2.2.1).bind fun t708 => (if t708 = true then (if bt678.2.2.2 = bt685.2.2.2 then ((gafferref02_Same.f k bt692.1 bt692.2.1 bt692.2.2.1 bt699.1 bt699.2.1 bt699.2.2.1).bind fun t709 => (if t709 = true then (if bt692.2.2.2 = bt699.2.2.2 then ((gafferref02_Same.f k t658 t661 t662 l0_0 a0_1 a0_2).bind fun t710 => (some t710)) else (some false)) else (some false))) else (some false)) else (some false))) else (some false)) else (some false))) else (some false))))))) = some r := H
 have A7 := Aside0.mk A70
 clear A70
 replace H := Option.bind_eq_some_iff.mp H
 obtain ⟨⟨t678, t681, t682, t683⟩, A80, H⟩ := H
 replace H : ((gafferref02_Sync.f k l0_0 a0_1 a0_2 a1).bind fun bt685 => ((disk_Cut.f k t658 t661 t662 a1 a3).bind fun bt692 => ((gafferref02_Cut.f k l0_0 a0_1 a0_2 a1 a3).bind fun bt699 => ((gafferlaw02_lives.f k).bind fun t706 => (if t706 = true then ((gafferref02_Same.f k t664 t667 t668 t671 t674 t675).bind fun t707 => (if t707 = true then (if t669 = t676 then ((gafferref02_Same.f k t678 t681 t682 bt685.1 bt685.2.1 bt685.2.2.1).bind fun t708 => (if t708 = true then (if t683 = bt685.2.2.2 then ((gafferref02_Same.f k bt692.1 bt692.2.1 bt692.2.2.1 bt699.1 bt699.2.1 bt699.2.2.1).bind fun t709 => (if t709 = true then (if bt692.2.2.2 = bt699.2.2.2 then ((gafferref02_Same.f k t658 t661 t662 l0_0 a0_1 a0_2).bind fun t710 => (some t710)) else (some false)) else (some false))) else (some false)) else (some false))) else (some false)) else (some false))) else (some false)))))) = some r := H
 have A8 := Aside0.mk A80
 clear A80
 replace H := Option.bind_eq_some_iff.mp H
 obtain ⟨⟨t685, t688, t689, t690⟩, A90, H⟩ := H
 replace H : ((disk_Cut.f k t658 t661 t662 a1 a3).bind fun bt692 => ((gafferref02_Cut.f k l0_0 a0_1 a0_2 a1 a3).bind fun bt699 => ((gafferlaw02_lives.f k).bind fun t706 => (if t706 = true then ((gafferref02_Same.f k t664 t667 t668 t671 t674 t675).bind fun t707 => (if t707 = true then (if t669 = t676 then ((gafferref02_Same.f k t678 t681 t682 t685 t688 t689).bind fun t708 => (if t708 = true then (if t683 = t690 then ((gafferref02_Same.f k bt692.1 bt692.2.1 bt692.2.2.1 bt699.1 bt699.2.1 bt699.2.2.1).bind fun t709 => (if t709 = true then (if bt692.2.2.2 = bt699.2.2.2 then ((gafferref02_Same.f k t658 t661 t662 l0_0 a0_1 a0_2).bind fun t710 => (some t710)) else (some false)) else (some false))) else (some false)) else (some false))) else (some false)) else (some false))) else (some false))))) = some r := H
 have A9 := Aside0.mk A90
 clear A90
 replace H := Option.bind_eq_some_iff.mp H
 obtain ⟨⟨t692, t695, t696, t697⟩, A100, H⟩ := H
 replace H : ((gafferref02_Cut.f k l0_0 a0_1 a0_2 a1 a3).bind fun bt699 => ((gafferlaw02_lives.f k).bind fun t706 => (if t706 = true then ((gafferref02_Same.f k t664 t667 t668 t671 t674 t675).bind fun t707 => (if t707 = true then (if t669 = t676 then ((gafferref02_Same.f k t678 t681 t682 t685 t688 t689).bind fun t708 => (if t708 = true then (if t683 = t690 then ((gafferref02_Same.f k t692 t695 t696 bt699.1 bt699.2.1 bt699.2.2.1).bind fun t709 => (if t709 = true then (if t697 = bt699.2.2.2 then ((gafferref02_Same.f k t658 t661 t662 l0_0 a0_1 a0_2).bind fun t710 => (some t710)) else (some false)) else (some false))) else (some false)) else (some false))) else (some false)) else (some false))) else (some false)))) = some r := H
 have A10 := Aside0.mk A100
 clear A100
 replace H := Option.bind_eq_some_iff.mp H
 obtain ⟨⟨t699, t702, t703, t704⟩, A110, H⟩ := H
 replace H : ((gafferlaw02_lives.f k).bind fun t706 => (if t706 = true then ((gafferref02_Same.f k t664 t667 t668 t671 t674 t675).bind fun t707 => (if t707 = true then (if t669 = t676 then ((gafferref02_Same.f k t678 t681 t682 t685 t688 t689).bind fun t708 => (if t708 = true then (if t683 = t690 then ((gafferref02_Same.f k t692 t695 t696 t699 t702 t703).bind fun t709 => (if t709 = true then (if t697 = t704 then ((gafferref02_Same.f k t658 t661 t662 l0_0 a0_1 a0_2).bind fun t710 => (some t710)) else (some false)) else (some false))) else (some false)) else (some false))) else (some false)) else (some false))) else (some false))) = some r := H
 have A11 := Aside0.mk A110
 clear A110
 replace H := Option.bind_eq_some_iff.mp H
 obtain ⟨t706, A120, H⟩ := H
 replace H : (if t706 = true then ((gafferref02_Same.f k t664 t667 t668 t671 t674 t675).bind fun t707 => (if t707 = true then (if t669 = t676 then ((gafferref02_Same.f k t678 t681 t682 t685 t688 t689).bind fun t708 => (if t708 = true then (if t683 = t690 then ((gafferref02_Same.f k t692 t695 t696 t699 t702 t703).bind fun t709 => (if t709 = true then (if t697 = t704 then ((gafferref02_Same.f k t658 t661 t662 l0_0 a0_1 a0_2).bind fun t710 => (some t710)) else (some false)) else (some false))) else (some false)) else (some false))) else (some false)) else (some false))) else (some false)) = some r := H
 have A12 := Aside0.mk A120
 clear A120
 by_cases c13 : t706 = true
 ·subst c13
  have H1 : ((gafferref02_Same.f k t664 t667 t668 t671 t674 t675).bind fun t707 => (if t707 = true then (if t669 = t676 then ((gafferref02_Same.f k t678 t681 t682 t685 t688 t689).bind fun t708 => (if t708 = true then (if t683 = t690 then ((gafferref02_Same.f k t692 t695 t696 t699 t702 t703).bind fun t709 => (if t709 = true then (if t697 = t704 then ((gafferref02_Same.f k t658 t661 t662 l0_0 a0_1 a0_2).bind fun t710 => (some t710)) else (some false)) else (some false))) else (some false)) else (some false))) else (some false)) else (some false))) = some r := by rw [if_pos rfl] at H; exact H
  clear H
  have H := H1
  clear H1
  replace H := Option.bind_eq_some_iff.mp H
  obtain ⟨t707, A140, H⟩ := H
  replace H : (if t707 = true then (if t669 = t676 then ((gafferref02_Same.f k t678 t681 t682 t685 t688 t689).bind fun t708 => (if t708 = true then (if t683 = t690 then ((gafferref02_Same.f k t692 t695 t696 t699 t702 t703).bind fun t709 => (if t709 = true then (if t697 = t704 then ((gafferref02_Same.f k t658 t661 t662 l0_0 a0_1 a0_2).bind fun t710 => (some t710)) else (some false)) else (some false))) else (some false)) else (some false))) else (some false)) else (some false)) = some r := H
  have A14 := Aside0.mk A140
  clear A140
  by_cases c15 : t707 = true
  ·subst c15
   have H1 : (if t669 = t676 then ((gafferref02_Same.f k t678 t681 t682 t685 t688 t689).bind fun t708 => (if t708 = true then (if t683 = t690 then ((gafferref02_Same.f k t692 t695 t696 t699 t702 t703).bind fun t709 => (if t709 = true then (if t697 = t704 then ((gafferref02_Same.f k t658 t661 t662 l0_0 a0_1 a0_2).bind fun t710 => (some t710)) else (some false)) else (some false))) else (some false)) else (some false))) else (some false)) = some r := by rw [if_pos rfl] at H; exact H
   clear H
   have H := H1
   clear H1
   by_cases c16 : t669 = t676
   ·rw [if_pos c16] at H
    have c16b0 : (t669 == t676) = true := beq_iff_eq.mpr c16
    have c16b1 : (t669 != t676) = false := bne_eq_false_iff_eq.mpr c16
    clear c16
    replace H := Option.bind_eq_some_iff.mp H
    obtain ⟨t708, A170, H⟩ := H
    replace H : (if t708 = true then (if t683 = t690 then ((gafferref02_Same.f k t692 t695 t696 t699 t702 t703).bind fun t709 => (if t709 = true then (if t697 = t704 then ((gafferref02_Same.f k t658 t661 t662 l0_0 a0_1 a0_2).bind fun t710 => (some t710)) else (some false)) else (some false))) else (some false)) else (some false)) = some r := H
    have A17 := Aside0.mk A170
    clear A170
    by_cases c18 : t708 = true
    ·subst c18
     have H1 : (if t683 = t690 then ((gafferref02_Same.f k t692 t695 t696 t699 t702 t703).bind fun t709 => (if t709 = true then (if t697 = t704 then ((gafferref02_Same.f k t658 t661 t662 l0_0 a0_1 a0_2).bind fun t710 => (some t710)) else (some false)) else (some false))) else (some false)) = some r := by rw [if_pos rfl] at H; exact H
     clear H
     have H := H1
     clear H1
     by_cases c19 : t683 = t690
     ·rw [if_pos c19] at H
      have c19b0 : (t683 == t690) = true := beq_iff_eq.mpr c19
      have c19b1 : (t683 != t690) = false := bne_eq_false_iff_eq.mpr c19
      clear c19
      replace H := Option.bind_eq_some_iff.mp H
      obtain ⟨t709, A200, H⟩ := H
      replace H : (if t709 = true then (if t697 = t704 then ((gafferref02_Same.f k t658 t661 t662 l0_0 a0_1 a0_2).bind fun t710 => (some t710)) else (some false)) else (some false)) = some r := H
      have A20 := Aside0.mk A200
      clear A200
      by_cases c21 : t709 = true
      ·subst c21
       have H1 : (if t697 = t704 then ((gafferref02_Same.f k t658 t661 t662 l0_0 a0_1 a0_2).bind fun t710 => (some t710)) else (some false)) = some r := by rw [if_pos rfl] at H; exact H
       clear H
       have H := H1
       clear H1
       by_cases c22 : t697 = t704
       ·rw [if_pos c22] at H
        have c22b0 : (t697 == t704) = true := beq_iff_eq.mpr c22
        have c22b1 : (t697 != t704) = false := bne_eq_false_iff_eq.mpr c22
        clear c22
        replace H := Option.bind_eq_some_iff.mp H
        obtain ⟨t710, A230, H⟩ := H
        replace H : (some t710) = some r := H
        have A23 := Aside0.mk A230
        clear A230
        obtain rfl := Option.some.inj H
        go_enter Try.func7, Try.ntmps7
        go_wp2_with (first | ((with_reducible refine gate_dst (N := 4) rfl ?_); refine box_event ?hg (N := 4) ?hd (cs := #[.slice A0_0 l0_0.length c0_0, .bool a0_1, .int .i64 a0_2]) (t := 24) ?hr ?_; (case hd => rfl); (case hg => rfl); (case hr => first | (go_simp; done) | (go_simp; rfl)); intro gb657 hg w24 hbox hb; have BK657 := Aside0.mk (hbox); have GW657 := Aside0.mk (bs_0 hg HB); have GE657 := Aside0.mk (bs_0 hg HB); replace HB := Aside0.mk (below_step (bl_ HB) hb); clear hb hbox hg; obtain ⟨hcz25_0, hcz25_1, hcz25_2, hfz25_0, hfz25_1, hfz25_2⟩ := c3_ BK657) | ((with_reducible refine gate_callee (f := 11) rfl ?_); refine goesL_ (some 23) rfl rfl Try.func11 (by kernel_rfl) rfl #[.agg #[.slice A0_0 l0_0.length c0_0, .bool a0_1, .int .i64 a0_2]] rfl (ar_) ?_; (with_reducible refine (gafferref02_Copy.calls _ _ l0_0 a0_1 a0_2 t658 t661 t662 _ ?side1 ?side2 A5.out).mono ?_); (case side1 => repeat (first | exact (Kd.C_below HR0_0.out HB.out) | (with_reducible refine Kd.C_alloc ?_ _) | (with_reducible refine Kd.C_drewN ?_ _) | (with_reducible refine Kd.C_drew ?_))); (case side2 => exact HC0_0.out); rintro e w26 ⟨v659, rfl, ho0, hb⟩; refine ⟨_, rfl, ?_⟩; have HO660 := Aside0.mk (Kd.R_lower ho0 (below_size (bl_1 HB GE657))); replace BK657 := Aside0.mk (bb_ BK657 hb); replace HB := Aside0.mk (below_step (bl_1 HB GE657) hb); (try clear hb); (try clear hb2); (try clear hk); (try clear hi); (try clear ho0)) | ((with_reducible refine gate_dst (N := 9) rfl ?_); refine box_event ?hg (N := 9) ?hd (cs := #[.slice none 0 0, .bool false, .int .i64 0]) (t := 24) ?hr ?_; (case hd => rfl); (case hg => rfl); (case hr => first | (go_simp; done) | (go_simp; rfl)); intro gb663 hg w27 hbox hb; replace HO660 := Aside0.mk (Kd.R_below (by (with_reducible repeat (first | apply Kd.R_alloc | apply Kd.R_drewN | apply Kd.R_drew)); exact HO660.out) hb); have BK663 := Aside0.mk (hbox); have GW663 := Aside0.mk (bs_1 hg HB GE657); have GE663 := Aside0.mk (bs_1 hg HB GE657); replace HB := Aside0.mk (below_step (bl_1 HB GE657) hb); have NB657_663 := Aside0.mk (nb_ hg BK657); have NB663_657 := Aside0.mk (nc_ hg BK657); replace BK657 := Aside0.mk (bb_ BK657 hb); clear hb hbox hg; obtain ⟨Ao28, co28, eo28⟩ := Kd.R_slice HO660.out; subst eo28; have hnb29 := NB663_657.out; have hnc29 := NB657_663.out; obtain ⟨hcz30_0, hcz30_1, hcz30_2, hfz30_0, hfz30_1, hfz30_2⟩ := c3_ BK663) | ((with_reducible refine gate_callee (f := 18) rfl ?_); refine goesL_ (some 28) rfl rfl Try.func18 (by kernel_rfl) rfl #[.agg #[.slice Ao28 t658.length co28, .bool t661, .int .i64 t662], .string a1, .string a2] rfl (ar_) ?_; (with_reducible refine (disk_Add.calls k _ _ t658 t661 t662 a1 a2 t664 t667 t668 t669 _ ?side1 ?side2 A6.out).mono ?_); (case side1 => refine (Kd.R_reads' (e := 35) (base := w.heap.size) (ok := fun k_ => True) (n := t658.length) (c := co28) ?_).2.2; exact (by (with_reducible repeat (first | apply Kd.R_alloc | apply Kd.R_drewN | apply Kd.R_drew)); exact (Kd.R_mono (Kd.R_far (p := ⟨gb663, 2, none⟩) (Kd.R_far (p := ⟨gb663, 1, none⟩) (Kd.R_far (p := ⟨gb663, 0, none⟩) (Kd.R_types HO660.out BK663.out (by decide)) (fun _ hk => hk.2) (.slice Ao28 t658.length co28)) (fun _ hk => hk.2) (.bool t661)) (fun _ hk => hk.2) (.int .i64 t662)) (fun _ h_ => h_.1)))); (case side2 => exact (Kd.R_reads' HO660.out).2.1); rintro e w31 ⟨v665, rfl, ho0, hb⟩; refine ⟨_, rfl, ?_⟩; have HO666 := Aside0.mk (Kd.R_lower (Kd.R_new' ho0 (Kd.R_lt (by (with_reducible repeat (first | apply Kd.R_alloc | apply Kd.R_drewN | apply Kd.R_drew)); exact (Kd.R_mono (Kd.R_far (p := ⟨gb663, 2, none⟩) (Kd.R_far (p := ⟨gb663, 1, none⟩) (Kd.R_far (p := ⟨gb663, 0, none⟩) (Kd.R_types HO660.out BK663.out (by decide)) (fun _ hk => hk.2) (.slice Ao28 t658.length co28)) (fun _ hk => hk.2) (.bool t661)) (fun _ hk => hk.2) (.int .i64 t662)) (fun _ h_ => h_.1))))) (below_size (bl_2 HB GE657 GE663))); replace HO660 := Aside0.mk (Kd.R_elder' (by (with_reducible repeat (first | apply Kd.R_alloc | apply Kd.R_drewN | apply Kd.R_drew)); exact (Kd.R_mono (Kd.R_far (p := ⟨gb663, 2, none⟩) (Kd.R_far (p := ⟨gb663, 1, none⟩) (Kd.R_far (p := ⟨gb663, 0, none⟩) (Kd.R_types HO660.out BK663.out (by decide)) (fun _ hk => hk.2) (.slice Ao28 t658.length co28)) (fun _ hk => hk.2) (.bool t661)) (fun _ hk => hk.2) (.int .i64 t662)) (fun _ h_ => h_.1))) (Kd.R_base ho0) hb); replace BK657 := Aside0.mk (blk_below (g := gb657) (o := .cells #[.slice A0_0 l0_0.length c0_0, .bool a0_1, .int .i64 a0_2] 24 (0, 0)) (bp_1 BK657 NB657_663) hb); replace BK663 := Aside0.mk (blk_below (g := gb663) (o := .cells #[.slice Ao28 t658.length co28, .bool t661, .int .i64 t662] 24 (0, 0)) (bp_0 BK663) hb); replace HB := Aside0.mk (below_step (bl_2 HB GE657 GE663) hb); (try clear hb); (try clear hb2); (try clear hk); (try clear hi); (try clear ho0)) | ((with_reducible refine gate_dst (N := 10) rfl ?_); refine box_event ?hg (N := 10) ?hd (cs := #[.slice none 0 0, .bool false, .int .i64 0]) (t := 24) ?hr ?_; (case hd => rfl); (case hg => rfl); (case hr => first | (go_simp; done) | (go_simp; rfl)); intro gb670 hg w32 hbox hb; replace HO660 := Aside0.mk (Kd.R_below (by (with_reducible repeat (first | apply Kd.R_alloc | apply Kd.R_drewN | apply Kd.R_drew)); exact HO660.out) hb); replace HO666 := Aside0.mk (Kd.R_below (by (with_reducible repeat (first | apply Kd.R_alloc | apply Kd.R_drewN | apply Kd.R_drew)); exact HO666.out) hb); have BK670 := Aside0.mk (hbox); have GW670 := Aside0.mk (bs_2 hg HB GE657 GE663); have GE670 := Aside0.mk (bs_2 hg HB GE657 GE663); replace HB := Aside0.mk (below_step (bl_2 HB GE657 GE663) hb); have NB657_670 := Aside0.mk (nb_ hg BK657); have NB670_657 := Aside0.mk (nc_ hg BK657); replace BK657 := Aside0.mk (bb_ BK657 hb); have NB663_670 := Aside0.mk (nb_ hg BK663); have NB670_663 := Aside0.mk (nc_ hg BK663); replace BK663 := Aside0.mk (bb_ BK663 hb); clear hb hbox hg; obtain ⟨Ao33, co33, eo33⟩ := Kd.R_slice HO666.out; subst eo33; have hnb34 := NB670_657.out; have hnc34 := NB657_670.out; have hnb35 := NB670_663.out; have hnc35 := NB663_670.out; obtain ⟨hcz36_0, hcz36_1, hcz36_2, hfz36_0, hfz36_1, hfz36_2⟩ := c3_ BK670; obtain ⟨hcz37_0, hcz37_1, hcz37_2, hfz37_0, hfz37_1, hfz37_2⟩ := c3_ BK657) | ((with_reducible refine gate_callee (f := 21) rfl ?_); refine goesL_ (some 35) rfl rfl Try.func21 (by kernel_rfl) rfl #[.agg #[.slice A0_0 l0_0.length c0_0, .bool a0_1, .int .i64 a0_2], .string a1, .string a2] rfl (ar_) ?_; (with_reducible refine (gafferref02_Add.calls k _ _ l0_0 a0_1 a0_2 a1 a2 t671 t674 t675 t676 _ ?side1 ?side2 A7.out).mono ?_); (case side1 => exact Kd.C_below HR0_0.out (bl_3 HB GE657 GE663 GE670)); (case side2 => exact HC0_0.out); rintro e w38 ⟨v672, rfl, ho0, hb⟩; refine ⟨_, rfl, ?_⟩; have HO673 := Aside0.mk (Kd.R_lower (Kd.R_new' (Kd.R_new' ho0 (Kd.R_lt (by (with_reducible repeat (first | apply Kd.R_alloc | apply Kd.R_drewN | apply Kd.R_drew)); exact (Kd.R_mono (Kd.R_far (p := ⟨gb670, 2, none⟩) (Kd.R_far (p := ⟨gb670, 1, none⟩) (Kd.R_far (p := ⟨gb670, 0, none⟩) (Kd.R_types HO660.out BK670.out (by decide)) (fun _ hk => hk.2) (.slice Ao33 t664.length co33)) (fun _ hk => hk.2) (.bool t667)) (fun _ hk => hk.2) (.int .i64 t668)) (fun _ h_ => h_.1))))) (Kd.R_lt (by (with_reducible repeat (first | apply Kd.R_alloc | apply Kd.R_drewN | apply Kd.R_drew)); exact (Kd.R_mono (Kd.R_far (p := ⟨gb670, 2, none⟩) (Kd.R_far (p := ⟨gb670, 1, none⟩) (Kd.R_far (p := ⟨gb670, 0, none⟩) (Kd.R_types HO666.out BK670.out (by decide)) (fun _ hk => hk.2) (.slice Ao33 t664.length co33)) (fun _ hk => hk.2) (.bool t667)) (fun _ hk => hk.2) (.int .i64 t668)) (fun _ h_ => h_.1))))) (below_size (bl_3 HB GE657 GE663 GE670))); replace HO660 := Aside0.mk (Kd.R_elder' (by (with_reducible repeat (first | apply Kd.R_alloc | apply Kd.R_drewN | apply Kd.R_drew)); exact (Kd.R_mono (Kd.R_far (p := ⟨gb670, 2, none⟩) (Kd.R_far (p := ⟨gb670, 1, none⟩) (Kd.R_far (p := ⟨gb670, 0, none⟩) (Kd.R_types HO660.out BK670.out (by decide)) (fun _ hk => hk.2) (.slice Ao33 t664.length co33)) (fun _ hk => hk.2) (.bool t667)) (fun _ hk => hk.2) (.int .i64 t668)) (fun _ h_ => h_.1))) (Kd.R_base ho0) hb); replace HO666 := Aside0.mk (Kd.R_elder' (by (with_reducible repeat (first | apply Kd.R_alloc | apply Kd.R_drewN | apply Kd.R_drew)); exact (Kd.R_mono (Kd.R_far (p := ⟨gb670, 2, none⟩) (Kd.R_far (p := ⟨gb670, 1, none⟩) (Kd.R_far (p := ⟨gb670, 0, none⟩) (Kd.R_types HO666.out BK670.out (by decide)) (fun _ hk => hk.2) (.slice Ao33 t664.length co33)) (fun _ hk => hk.2) (.bool t667)) (fun _ hk => hk.2) (.int .i64 t668)) (fun _ h_ => h_.1))) (Kd.R_base ho0) hb); replace BK657 := Aside0.mk (blk_below (g := gb657) (o := .cells #[.slice A0_0 l0_0.length c0_0, .bool a0_1, .int .i64 a0_2] 24 (0, 0)) (bp_1 BK657 NB657_670) hb); replace BK663 := Aside0.mk (blk_below (g := gb663) (o := .cells #[.slice Ao28 t658.length co28, .bool t661, .int .i64 t662] 24 (0, 0)) (bp_1 BK663 NB663_670) hb); replace BK670 := Aside0.mk (blk_below (g := gb670) (o := .cells #[.slice Ao33 t664.length co33, .bool t667, .int .i64 t668] 24 (0, 0)) (bp_0 BK670) hb); replace HB := Aside0.mk (below_step (bl_3 HB GE657 GE663 GE670) hb); (try clear hb); (try clear hb2); (try clear hk); (try clear hi); (try clear ho0)) | ((with_reducible refine gate_dst (N := 12) rfl ?_); refine box_event ?hg (N := 12) ?hd (cs := #[.slice none 0 0, .bool false, .int .i64 0]) (t := 24) ?hr ?_; (case hd => rfl); (case hg => rfl); (case hr => first | (go_simp; done) | (go_simp; rfl)); intro gb677 hg w39 hbox hb; replace HO660 := Aside0.mk (Kd.R_below (by (with_reducible repeat (first | apply Kd.R_alloc | apply Kd.R_drewN | apply Kd.R_drew)); exact HO660.out) hb); replace HO666 := Aside0.mk (Kd.R_below (by (with_reducible repeat (first | apply Kd.R_alloc | apply Kd.R_drewN | apply Kd.R_drew)); exact HO666.out) hb); replace HO673 := Aside0.mk (Kd.R_below (by (with_reducible repeat (first | apply Kd.R_alloc | apply Kd.R_drewN | apply Kd.R_drew)); exact HO673.out) hb); have BK677 := Aside0.mk (hbox); have GW677 := Aside0.mk (bs_3 hg HB GE657 GE663 GE670); have GE677 := Aside0.mk (bs_3 hg HB GE657 GE663 GE670); replace HB := Aside0.mk (below_step (bl_3 HB GE657 GE663 GE670) hb); have NB657_677 := Aside0.mk (nb_ hg BK657); have NB677_657 := Aside0.mk (nc_ hg BK657); replace BK657 := Aside0.mk (bb_ BK657 hb); have NB663_677 := Aside0.mk (nb_ hg BK663); have NB677_663 := Aside0.mk (nc_ hg BK663); replace BK663 := Aside0.mk (bb_ BK663 hb); have NB670_677 := Aside0.mk (nb_ hg BK670); have NB677_670 := Aside0.mk (nc_ hg BK670); replace BK670 := Aside0.mk (bb_ BK670 hb); clear hb hbox hg; obtain ⟨Ao40, co40, eo40⟩ := Kd.R_slice HO673.out; subst eo40; have hnb41 := NB677_657.out; have hnc41 := NB657_677.out; have hnb42 := NB677_663.out; have hnc42 := NB663_677.out; have hnb43 := NB677_670.out; have hnc43 := NB670_677.out; obtain ⟨hcz44_0, hcz44_1, hcz44_2, hfz44_0, hfz44_1, hfz44_2⟩ := c3_ BK677; obtain ⟨hcz45_0, hcz45_1, hcz45_2, hfz45_0, hfz45_1, hfz45_2⟩ := c3_ BK663) | ((with_reducible refine gate_callee (f := 19) rfl ?_); refine goesL_ (some 41) rfl rfl Try.func19 (by kernel_rfl) rfl #[.agg #[.slice Ao28 t658.length co28, .bool t661, .int .i64 t662], .string a1] rfl (ar_) ?_; (with_reducible refine (disk_Sync.calls k _ _ t658 t661 t662 a1 t678 t681 t682 t683 _ ?side1 ?side2 A8.out).mono ?_); (case side1 => refine (Kd.R_reads' (e := 35) (base := w.heap.size) (ok := fun k_ => ((True ∧ some k_ ≠ (.slice Ao33 t664.length co33 : Value).ownBlock) ∧ some k_ ≠ (.slice Ao40 t671.length co40 : Value).ownBlock)) (n := t658.length) (c := co28) ?_).2.2; exact (by (with_reducible repeat (first | apply Kd.R_alloc | apply Kd.R_drewN | apply Kd.R_drew)); exact (Kd.R_mono (Kd.R_far (p := ⟨gb677, 2, none⟩) (Kd.R_far (p := ⟨gb677, 1, none⟩) (Kd.R_far (p := ⟨gb677, 0, none⟩) (Kd.R_types HO660.out BK677.out (by decide)) (fun _ hk => hk.2) (.slice Ao40 t671.length co40)) (fun _ hk => hk.2) (.bool t674)) (fun _ hk => hk.2) (.int .i64 t675)) (fun _ h_ => h_.1)))); (case side2 => exact (Kd.R_reads' HO660.out).2.1); rintro e w46 ⟨v679, rfl, ho0, hb⟩; refine ⟨_, rfl, ?_⟩; have HO680 := Aside0.mk (Kd.R_lower (Kd.R_new' (Kd.R_new' (Kd.R_new' ho0 (Kd.R_lt (by (with_reducible repeat (first | apply Kd.R_alloc | apply Kd.R_drewN | apply Kd.R_drew)); exact (Kd.R_mono (Kd.R_far (p := ⟨gb677, 2, none⟩) (Kd.R_far (p := ⟨gb677, 1, none⟩) (Kd.R_far (p := ⟨gb677, 0, none⟩) (Kd.R_types HO660.out BK677.out (by decide)) (fun _ hk => hk.2) (.slice Ao40 t671.length co40)) (fun _ hk => hk.2) (.bool t674)) (fun _ hk => hk.2) (.int .i64 t675)) (fun _ h_ => h_.1))))) (Kd.R_lt (by (with_reducible repeat (first | apply Kd.R_alloc | apply Kd.R_drewN | apply Kd.R_drew)); exact (Kd.R_mono (Kd.R_far (p := ⟨gb677, 2, none⟩) (Kd.R_far (p := ⟨gb677, 1, none⟩) (Kd.R_far (p := ⟨gb677, 0, none⟩) (Kd.R_types HO666.out BK677.out (by decide)) (fun _ hk => hk.2) (.slice Ao40 t671.length co40)) (fun _ hk => hk.2) (.bool t674)) (fun _ hk => hk.2) (.int .i64 t675)) (fun _ h_ => h_.1))))) (Kd.R_lt (by (with_reducible repeat (first | apply Kd.R_alloc | apply Kd.R_drewN | apply Kd.R_drew)); exact (Kd.R_mono (Kd.R_far (p := ⟨gb677, 2, none⟩) (Kd.R_far (p := ⟨gb677, 1, none⟩) (Kd.R_far (p := ⟨gb677, 0, none⟩) (Kd.R_types HO673.out BK677.out (by decide)) (fun _ hk => hk.2) (.slice Ao40 t671.length co40)) (fun _ hk => hk.2) (.bool t674)) (fun _ hk => hk.2) (.int .i64 t675)) (fun _ h_ => h_.1))))) (below_size (bl_4 HB GE657 GE663 GE670 GE677))); replace HO660 := Aside0.mk (Kd.R_elder' (by (with_reducible repeat (first | apply Kd.R_alloc | apply Kd.R_drewN | apply Kd.R_drew)); exact (Kd.R_mono (Kd.R_far (p := ⟨gb677, 2, none⟩) (Kd.R_far (p := ⟨gb677, 1, none⟩) (Kd.R_far (p := ⟨gb677, 0, none⟩) (Kd.R_types HO660.out BK677.out (by decide)) (fun _ hk => hk.2) (.slice Ao40 t671.length co40)) (fun _ hk => hk.2) (.bool t674)) (fun _ hk => hk.2) (.int .i64 t675)) (fun _ h_ => h_.1))) (Kd.R_base ho0) hb); replace HO666 := Aside0.mk (Kd.R_elder' (by (with_reducible repeat (first | apply Kd.R_alloc | apply Kd.R_drewN | apply Kd.R_drew)); exact (Kd.R_mono (Kd.R_far (p := ⟨gb677, 2, none⟩) (Kd.R_far (p := ⟨gb677, 1, none⟩) (Kd.R_far (p := ⟨gb677, 0, none⟩) (Kd.R_types HO666.out BK677.out (by decide)) (fun _ hk => hk.2) (.slice Ao40 t671.length co40)) (fun _ hk => hk.2) (.bool t674)) (fun _ hk => hk.2) (.int .i64 t675)) (fun _ h_ => h_.1))) (Kd.R_base ho0) hb); replace HO673 := Aside0.mk (Kd.R_elder' (by (with_reducible repeat (first | apply Kd.R_alloc | apply Kd.R_drewN | apply Kd.R_drew)); exact (Kd.R_mono (Kd.R_far (p := ⟨gb677, 2, none⟩) (Kd.R_far (p := ⟨gb677, 1, none⟩) (Kd.R_far (p := ⟨gb677, 0, none⟩) (Kd.R_types HO673.out BK677.out (by decide)) (fun _ hk => hk.2) (.slice Ao40 t671.length co40)) (fun _ hk => hk.2) (.bool t674)) (fun _ hk => hk.2) (.int .i64 t675)) (fun _ h_ => h_.1))) (Kd.R_base ho0) hb); replace BK657 := Aside0.mk (blk_below (g := gb657) (o := .cells #[.slice A0_0 l0_0.length c0_0, .bool a0_1, .int .i64 a0_2] 24 (0, 0)) (bp_1 BK657 NB657_677) hb); replace BK663 := Aside0.mk (blk_below (g := gb663) (o := .cells #[.slice Ao28 t658.length co28, .bool t661, .int .i64 t662] 24 (0, 0)) (bp_1 BK663 NB663_677) hb); replace BK670 := Aside0.mk (blk_below (g := gb670) (o := .cells #[.slice Ao33 t664.length co33, .bool t667, .int .i64 t668] 24 (0, 0)) (bp_1 BK670 NB670_677) hb); replace BK677 := Aside0.mk (blk_below (g := gb677) (o := .cells #[.slice Ao40 t671.length co40, .bool t674, .int .i64 t675] 24 (0, 0)) (bp_0 BK677) hb); replace HB := Aside0.mk (below_step (bl_4 HB GE657 GE663 GE670 GE677) hb); (try clear hb); (try clear hb2); (try clear hk); (try clear hi); (try clear ho0)) | ((with_reducible refine gate_dst (N := 14) rfl ?_); refine box_event ?hg (N := 14) ?hd (cs := #[.slice none 0 0, .bool false, .int .i64 0]) (t := 24) ?hr ?_; (case hd => rfl); (case hg => rfl); (case hr => first | (go_simp; done) | (go_simp; rfl)); intro gb684 hg w47 hbox hb; replace HO660 := Aside0.mk (Kd.R_below (by (with_reducible repeat (first | apply Kd.R_alloc | apply Kd.R_drewN | apply Kd.R_drew)); exact HO660.out) hb); replace HO666 := Aside0.mk (Kd.R_below (by (with_reducible repeat (first | apply Kd.R_alloc | apply Kd.R_drewN | apply Kd.R_drew)); exact HO666.out) hb); replace HO673 := Aside0.mk (Kd.R_below (by (with_reducible repeat (first | apply Kd.R_alloc | apply Kd.R_drewN | apply Kd.R_drew)); exact HO673.out) hb); replace HO680 := Aside0.mk (Kd.R_below (by (with_reducible repeat (first | apply Kd.R_alloc | apply Kd.R_drewN | apply Kd.R_drew)); exact HO680.out) hb); have BK684 := Aside0.mk (hbox); have GW684 := Aside0.mk (bs_4 hg HB GE657 GE663 GE670 GE677); have GE684 := Aside0.mk (bs_4 hg HB GE657 GE663 GE670 GE677); replace HB := Aside0.mk (below_step (bl_4 HB GE657 GE663 GE670 GE677) hb); have NB657_684 := Aside0.mk (nb_ hg BK657); have NB684_657 := Aside0.mk (nc_ hg BK657); replace BK657 := Aside0.mk (bb_ BK657 hb); have NB663_684 := Aside0.mk (nb_ hg BK663); have NB684_663 := Aside0.mk (nc_ hg BK663); replace BK663 := Aside0.mk (bb_ BK663 hb); have NB670_684 := Aside0.mk (nb_ hg BK670); have NB684_670 := Aside0.mk (nc_ hg BK670); replace BK670 := Aside0.mk (bb_ BK670 hb); have NB677_684 := Aside0.mk (nb_ hg BK677); have NB684_677 := Aside0.mk (nc_ hg BK677); replace BK677 := Aside0.mk (bb_ BK677 hb); clear hb hbox hg; obtain ⟨Ao48, co48, eo48⟩ := Kd.R_slice HO680.out; subst eo48; have hnb49 := NB684_657.out; have hnc49 := NB657_684.out; have hnb50 := NB684_663.out; have hnc50 := NB663_684.out; have hnb51 := NB684_670.out; have hnc51 := NB670_684.out; have hnb52 := NB684_677.out; have hnc52 := NB677_684.out; obtain ⟨hcz53_0, hcz53_1, hcz53_2, hfz53_0, hfz53_1, hfz53_2⟩ := c3_ BK684; obtain ⟨hcz54_0, hcz54_1, hcz54_2, hfz54_0, hfz54_1, hfz54_2⟩ := c3_ BK657) | ((with_reducible refine gate_callee (f := 22) rfl ?_); refine goesL_ (some 47) rfl rfl Try.func22 (by kernel_rfl) rfl #[.agg #[.slice A0_0 l0_0.length c0_0, .bool a0_1, .int .i64 a0_2], .string a1] rfl (ar_) ?_; (with_reducible refine (gafferref02_Sync.calls k _ _ l0_0 a0_1 a0_2 a1 t685 t688 t689 t690 _ ?side1 ?side2 A9.out).mono ?_); (case side1 => exact Kd.C_below HR0_0.out (bl_5 HB GE657 GE663 GE670 GE677 GE684)); (case side2 => exact HC0_0.out); rintro e w55 ⟨v686, rfl, ho0, hb⟩; refine ⟨_, rfl, ?_⟩; have HO687 := Aside0.mk (Kd.R_lower (Kd.R_new' (Kd.R_new' (Kd.R_new' (Kd.R_new' ho0 (Kd.R_lt (by (with_reducible repeat (first | apply Kd.R_alloc | apply Kd.R_drewN | apply Kd.R_drew)); exact (Kd.R_mono (Kd.R_far (p := ⟨gb684, 2, none⟩) (Kd.R_far (p := ⟨gb684, 1, none⟩) (Kd.R_far (p := ⟨gb684, 0, none⟩) (Kd.R_types HO660.out BK684.out (by decide)) (fun _ hk => hk.2) (.slice Ao48 t678.length co48)) (fun _ hk => hk.2) (.bool t681)) (fun _ hk => hk.2) (.int .i64 t682)) (fun _ h_ => h_.1))))) (Kd.R_lt (by (with_reducible repeat (first | apply Kd.R_alloc | apply Kd.R_drewN | apply Kd.R_drew)); exact (Kd.R_mono (Kd.R_far (p := ⟨gb684, 2, none⟩) (Kd.R_far (p := ⟨gb684, 1, none⟩) (Kd.R_far (p := ⟨gb684, 0, none⟩) (Kd.R_types HO666.out BK684.out (by decide)) (fun _ hk => hk.2) (.slice Ao48 t678.length co48)) (fun _ hk => hk.2) (.bool t681)) (fun _ hk => hk.2) (.int .i64 t682)) (fun _ h_ => h_.1))))) (Kd.R_lt (by (with_reducible repeat (first | apply Kd.R_alloc | apply Kd.R_drewN | apply Kd.R_drew)); exact (Kd.R_mono (Kd.R_far (p := ⟨gb684, 2, none⟩) (Kd.R_far (p := ⟨gb684, 1, none⟩) (Kd.R_far (p := ⟨gb684, 0, none⟩) (Kd.R_types HO673.out BK684.out (by decide)) (fun _ hk => hk.2) (.slice Ao48 t678.length co48)) (fun _ hk => hk.2) (.bool t681)) (fun _ hk => hk.2) (.int .i64 t682)) (fun _ h_ => h_.1))))) (Kd.R_lt (by (with_reducible repeat (first | apply Kd.R_alloc | apply Kd.R_drewN | apply Kd.R_drew)); exact (Kd.R_mono (Kd.R_far (p := ⟨gb684, 2, none⟩) (Kd.R_far (p := ⟨gb684, 1, none⟩) (Kd.R_far (p := ⟨gb684, 0, none⟩) (Kd.R_types HO680.out BK684.out (by decide)) (fun _ hk => hk.2) (.slice Ao48 t678.length co48)) (fun _ hk => hk.2) (.bool t681)) (fun _ hk => hk.2) (.int .i64 t682)) (fun _ h_ => h_.1))))) (below_size (bl_5 HB GE657 GE663 GE670 GE677 GE684))); replace HO660 := Aside0.mk (Kd.R_elder' (by (with_reducible repeat (first | apply Kd.R_alloc | apply Kd.R_drewN | apply Kd.R_drew)); exact (Kd.R_mono (Kd.R_far (p := ⟨gb684, 2, none⟩) (Kd.R_far (p := ⟨gb684, 1, none⟩) (Kd.R_far (p := ⟨gb684, 0, none⟩) (Kd.R_types HO660.out BK684.out (by decide)) (fun _ hk => hk.2) (.slice Ao48 t678.length co48)) (fun _ hk => hk.2) (.bool t681)) (fun _ hk => hk.2) (.int .i64 t682)) (fun _ h_ => h_.1))) (Kd.R_base ho0) hb); replace HO666 := Aside0.mk (Kd.R_elder' (by (with_reducible repeat (first | apply Kd.R_alloc | apply Kd.R_drewN | apply Kd.R_drew)); exact (Kd.R_mono (Kd.R_far (p := ⟨gb684, 2, none⟩) (Kd.R_far (p := ⟨gb684, 1, none⟩) (Kd.R_far (p := ⟨gb684, 0, none⟩) (Kd.R_types HO666.out BK684.out (by decide)) (fun _ hk => hk.2) (.slice Ao48 t678.length co48)) (fun _ hk => hk.2) (.bool t681)) (fun _ hk => hk.2) (.int .i64 t682)) (fun _ h_ => h_.1))) (Kd.R_base ho0) hb); replace HO673 := Aside0.mk (Kd.R_elder' (by (with_reducible repeat (first | apply Kd.R_alloc | apply Kd.R_drewN | apply Kd.R_drew)); exact (Kd.R_mono (Kd.R_far (p := ⟨gb684, 2, none⟩) (Kd.R_far (p := ⟨gb684, 1, none⟩) (Kd.R_far (p := ⟨gb684, 0, none⟩) (Kd.R_types HO673.out BK684.out (by decide)) (fun _ hk => hk.2) (.slice Ao48 t678.length co48)) (fun _ hk => hk.2) (.bool t681)) (fun _ hk => hk.2) (.int .i64 t682)) (fun _ h_ => h_.1))) (Kd.R_base ho0) hb); replace HO680 := Aside0.mk (Kd.R_elder' (by (with_reducible repeat (first | apply Kd.R_alloc | apply Kd.R_drewN | apply Kd.R_drew)); exact (Kd.R_mono (Kd.R_far (p := ⟨gb684, 2, none⟩) (Kd.R_far (p := ⟨gb684, 1, none⟩) (Kd.R_far (p := ⟨gb684, 0, none⟩) (Kd.R_types HO680.out BK684.out (by decide)) (fun _ hk => hk.2) (.slice Ao48 t678.length co48)) (fun _ hk => hk.2) (.bool t681)) (fun _ hk => hk.2) (.int .i64 t682)) (fun _ h_ => h_.1))) (Kd.R_base ho0) hb); replace BK657 := Aside0.mk (blk_below (g := gb657) (o := .cells #[.slice A0_0 l0_0.length c0_0, .bool a0_1, .int .i64 a0_2] 24 (0, 0)) (bp_1 BK657 NB657_684) hb); replace BK663 := Aside0.mk (blk_below (g := gb663) (o := .cells #[.slice Ao28 t658.length co28, .bool t661, .int .i64 t662] 24 (0, 0)) (bp_1 BK663 NB663_684) hb); replace BK670 := Aside0.mk (blk_below (g := gb670) (o := .cells #[.slice Ao33 t664.length co33, .bool t667, .int .i64 t668] 24 (0, 0)) (bp_1 BK670 NB670_684) hb); replace BK677 := Aside0.mk (blk_below (g := gb677) (o := .cells #[.slice Ao40 t671.length co40, .bool t674, .int .i64 t675] 24 (0, 0)) (bp_1 BK677 NB677_684) hb); replace BK684 := Aside0.mk (blk_below (g := gb684) (o := .cells #[.slice Ao48 t678.length co48, .bool t681, .int .i64 t682] 24 (0, 0)) (bp_0 BK684) hb); replace HB := Aside0.mk (below_step (bl_5 HB GE657 GE663 GE670 GE677 GE684) hb); (try clear hb); (try clear hb2); (try clear hk); (try clear hi); (try clear ho0)) | ((with_reducible refine gate_dst (N := 16) rfl ?_); refine box_event ?hg (N := 16) ?hd (cs := #[.slice none 0 0, .bool false, .int .i64 0]) (t := 24) ?hr ?_; (case hd => rfl); (case hg => rfl); (case hr => first | (go_simp; done) | (go_simp; rfl)); intro gb691 hg w56 hbox hb; replace HO660 := Aside0.mk (Kd.R_below (by (with_reducible repeat (first | apply Kd.R_alloc | apply Kd.R_drewN | apply Kd.R_drew)); exact HO660.out) hb); replace HO666 := Aside0.mk (Kd.R_below (by (with_reducible repeat (first | apply Kd.R_alloc | apply Kd.R_drewN | apply Kd.R_drew)); exact HO666.out) hb); replace HO673 := Aside0.mk (Kd.R_below (by (with_reducible repeat (first | apply Kd.R_alloc | apply Kd.R_drewN | apply Kd.R_drew)); exact HO673.out) hb); replace HO680 := Aside0.mk (Kd.R_below (by (with_reducible repeat (first | apply Kd.R_alloc | apply Kd.R_drewN | apply Kd.R_drew)); exact HO680.out) hb); replace HO687 := Aside0.mk (Kd.R_below (by (with_reducible repeat (first | apply Kd.R_alloc | apply Kd.R_drewN | apply Kd.R_drew)); exact HO687.out) hb); have BK691 := Aside0.mk (hbox); have GW691 := Aside0.mk (bs_5 hg HB GE657 GE663 GE670 GE677 GE684); have GE691 := Aside0.mk (bs_5 hg HB GE657 GE663 GE670 GE677 GE684); replace HB := Aside0.mk (below_step (bl_5 HB GE657 GE663 GE670 GE677 GE684) hb); have NB657_691 := Aside0.mk (nb_ hg BK657); have NB691_657 := Aside0.mk (nc_ hg BK657); replace BK657 := Aside0.mk (bb_ BK657 hb); have NB663_691 := Aside0.mk (nb_ hg BK663); have NB691_663 := Aside0.mk (nc_ hg BK663); replace BK663 := Aside0.mk (bb_ BK663 hb); have NB670_691 := Aside0.mk (nb_ hg BK670); have NB691_670 := Aside0.mk (nc_ hg BK670); replace BK670 := Aside0.mk (bb_ BK670 hb); have NB677_691 := Aside0.mk (nb_ hg BK677); have NB691_677 := Aside0.mk (nc_ hg BK677); replace BK677 := Aside0.mk (bb_ BK677 hb); have NB684_691 := Aside0.mk (nb_ hg BK684); have NB691_684 := Aside0.mk (nc_ hg BK684); replace BK684 := Aside0.mk (bb_ BK684 hb); clear hb hbox hg; obtain ⟨Ao57, co57, eo57⟩ := Kd.R_slice HO687.out; subst eo57; have hnb58 := NB691_657.out; have hnc58 := NB657_691.out; have hnb59 := NB691_663.out; have hnc59 := NB663_691.out; have hnb60 := NB691_670.out; have hnc60 := NB670_691.out; have hnb61 := NB691_677.out; have hnc61 := NB677_691.out; have hnb62 := NB691_684.out; have hnc62 := NB684_691.out; obtain ⟨hcz63_0, hcz63_1, hcz63_2, hfz63_0, hfz63_1, hfz63_2⟩ := c3_ BK691; obtain ⟨hcz64_0, hcz64_1, hcz64_2, hfz64_0, hfz64_1, hfz64_2⟩ := c3_ BK663) | ((with_reducible refine gate_callee (f := 23) rfl ?_); refine goesL_ (some 54) rfl rfl Try.func23 (by kernel_rfl) rfl #[.agg #[.slice Ao28 t658.length co28, .bool t661, .int .i64 t662], .string a1, .int .i64 a3] rfl (ar_) ?_; (with_reducible refine (disk_Cut.calls k _ _ t658 t661 t662 a1 a3 t692 t695 t696 t697 _ ?side1 ?side2 A10.out).mono ?_); (case side1 => refine (Kd.R_reads' (e := 35) (base := w.heap.size) (ok := fun k_ => ((((True ∧ some k_ ≠ (.slice Ao33 t664.length co33 : Value).ownBlock) ∧ some k_ ≠ (.slice Ao40 t671.length co40 : Value).ownBlock) ∧ some k_ ≠ (.slice Ao48 t678.length co48 : Value).ownBlock) ∧ some k_ ≠ (.slice Ao57 t685.length co57 : Value).ownBlock)) (n := t658.length) (c := co28) ?_).2.2; exact (by (with_reducible repeat (first | apply Kd.R_alloc | apply Kd.R_drewN | apply Kd.R_drew)); exact (Kd.R_mono (Kd.R_far (p := ⟨gb691, 2, none⟩) (Kd.R_far (p := ⟨gb691, 1, none⟩) (Kd.R_far (p := ⟨gb691, 0, none⟩) (Kd.R_types HO660.out BK691.out (by decide)) (fun _ hk => hk.2) (.slice Ao57 t685.length co57)) (fun _ hk => hk.2) (.bool t688)) (fun _ hk => hk.2) (.int .i64 t689)) (fun _ h_ => h_.1)))); (case side2 => exact (Kd.R_reads' HO660.out).2.1); rintro e w65 ⟨v693, rfl, ho0, hb⟩; refine ⟨_, rfl, ?_⟩; have HO694 := Aside0.mk (Kd.R_lower (Kd.R_new' (Kd.R_new' (Kd.R_new' (Kd.R_new' (Kd.R_new' ho0 (Kd.R_lt (by (with_reducible repeat (first | apply Kd.R_alloc | apply Kd.R_drewN | apply Kd.R_drew)); exact (Kd.R_mono (Kd.R_far (p := ⟨gb691, 2, none⟩) (Kd.R_far (p := ⟨gb691, 1, none⟩) (Kd.R_far (p := ⟨gb691, 0, none⟩) (Kd.R_types HO660.out BK691.out (by decide)) (fun _ hk => hk.2) (.slice Ao57 t685.length co57)) (fun _ hk => hk.2) (.bool t688)) (fun _ hk => hk.2) (.int .i64 t689)) (fun _ h_ => h_.1))))) (Kd.R_lt (by (with_reducible repeat (first | apply Kd.R_alloc | apply Kd.R_drewN | apply Kd.R_drew)); exact (Kd.R_mono (Kd.R_far (p := ⟨gb691, 2, none⟩) (Kd.R_far (p := ⟨gb691, 1, none⟩) (Kd.R_far (p := ⟨gb691, 0, none⟩) (Kd.R_types HO666.out BK691.out (by decide)) (fun _ hk => hk.2) (.slice Ao57 t685.length co57)) (fun _ hk => hk.2) (.bool t688)) (fun _ hk => hk.2) (.int .i64 t689)) (fun _ h_ => h_.1))))) (Kd.R_lt (by (with_reducible repeat (first | apply Kd.R_alloc | apply Kd.R_drewN | apply Kd.R_drew)); exact (Kd.R_mono (Kd.R_far (p := ⟨gb691, 2, none⟩) (Kd.R_far (p := ⟨gb691, 1, none⟩) (Kd.R_far (p := ⟨gb691, 0, none⟩) (Kd.R_types HO673.out BK691.out (by decide)) (fun _ hk => hk.2) (.slice Ao57 t685.length co57)) (fun _ hk => hk.2) (.bool t688)) (fun _ hk => hk.2) (.int .i64 t689)) (fun _ h_ => h_.1))))) (Kd.R_lt (by (with_reducible repeat (first | apply Kd.R_alloc | apply Kd.R_drewN | apply Kd.R_drew)); exact (Kd.R_mono (Kd.R_far (p := ⟨gb691, 2, none⟩) (Kd.R_far (p := ⟨gb691, 1, none⟩) (Kd.R_far (p := ⟨gb691, 0, none⟩) (Kd.R_types HO680.out BK691.out (by decide)) (fun _ hk => hk.2) (.slice Ao57 t685.length co57)) (fun _ hk => hk.2) (.bool t688)) (fun _ hk => hk.2) (.int .i64 t689)) (fun _ h_ => h_.1))))) (Kd.R_lt (by (with_reducible repeat (first | apply Kd.R_alloc | apply Kd.R_drewN | apply Kd.R_drew)); exact (Kd.R_mono (Kd.R_far (p := ⟨gb691, 2, none⟩) (Kd.R_far (p := ⟨gb691, 1, none⟩) (Kd.R_far (p := ⟨gb691, 0, none⟩) (Kd.R_types HO687.out BK691.out (by decide)) (fun _ hk => hk.2) (.slice Ao57 t685.length co57)) (fun _ hk => hk.2) (.bool t688)) (fun _ hk => hk.2) (.int .i64 t689)) (fun _ h_ => h_.1))))) (below_size (bl_6 HB GE657 GE663 GE670 GE677 GE684 GE691))); replace HO660 := Aside0.mk (Kd.R_elder' (by (with_reducible repeat (first | apply Kd.R_alloc | apply Kd.R_drewN | apply Kd.R_drew)); exact (Kd.R_mono (Kd.R_far (p := ⟨gb691, 2, none⟩) (Kd.R_far (p := ⟨gb691, 1, none⟩) (Kd.R_far (p := ⟨gb691, 0, none⟩) (Kd.R_types HO660.out BK691.out (by decide)) (fun _ hk => hk.2) (.slice Ao57 t685.length co57)) (fun _ hk => hk.2) (.bool t688)) (fun _ hk => hk.2) (.int .i64 t689)) (fun _ h_ => h_.1))) (Kd.R_base ho0) hb); replace HO666 := Aside0.mk (Kd.R_elder' (by (with_reducible repeat (first | apply Kd.R_alloc | apply Kd.R_drewN | apply Kd.R_drew)); exact (Kd.R_mono (Kd.R_far (p := ⟨gb691, 2, none⟩) (Kd.R_far (p := ⟨gb691, 1, none⟩) (Kd.R_far (p := ⟨gb691, 0, none⟩) (Kd.R_types HO666.out BK691.out (by decide)) (fun _ hk => hk.2) (.slice Ao57 t685.length co57)) (fun _ hk => hk.2) (.bool t688)) (fun _ hk => hk.2) (.int .i64 t689)) (fun _ h_ => h_.1))) (Kd.R_base ho0) hb); replace HO673 := Aside0.mk (Kd.R_elder' (by (with_reducible repeat (first | apply Kd.R_alloc | apply Kd.R_drewN | apply Kd.R_drew)); exact (Kd.R_mono (Kd.R_far (p := ⟨gb691, 2, none⟩) (Kd.R_far (p := ⟨gb691, 1, none⟩) (Kd.R_far (p := ⟨gb691, 0, none⟩) (Kd.R_types HO673.out BK691.out (by decide)) (fun _ hk => hk.2) (.slice Ao57 t685.length co57)) (fun _ hk => hk.2) (.bool t688)) (fun _ hk => hk.2) (.int .i64 t689)) (fun _ h_ => h_.1))) (Kd.R_base ho0) hb); replace HO680 := Aside0.mk (Kd.R_elder' (by (with_reducible repeat (first | apply Kd.R_alloc | apply Kd.R_drewN | apply Kd.R_drew)); exact (Kd.R_mono (Kd.R_far (p := ⟨gb691, 2, none⟩) (Kd.R_far (p := ⟨gb691, 1, none⟩) (Kd.R_far (p := ⟨gb691, 0, none⟩) (Kd.R_types HO680.out BK691.out (by decide)) (fun _ hk => hk.2) (.slice Ao57 t685.length co57)) (fun _ hk => hk.2) (.bool t688)) (fun _ hk => hk.2) (.int .i64 t689)) (fun _ h_ => h_.1))) (Kd.R_base ho0) hb); replace HO687 := Aside0.mk (Kd.R_elder' (by (with_reducible repeat (first | apply Kd.R_alloc | apply Kd.R_drewN | apply Kd.R_drew)); exact (Kd.R_mono (Kd.R_far (p := ⟨gb691, 2, none⟩) (Kd.R_far (p := ⟨gb691, 1, none⟩) (Kd.R_far (p := ⟨gb691, 0, none⟩) (Kd.R_types HO687.out BK691.out (by decide)) (fun _ hk => hk.2) (.slice Ao57 t685.length co57)) (fun _ hk => hk.2) (.bool t688)) (fun _ hk => hk.2) (.int .i64 t689)) (fun _ h_ => h_.1))) (Kd.R_base ho0) hb); replace BK657 := Aside0.mk (blk_below (g := gb657) (o := .cells #[.slice A0_0 l0_0.length c0_0, .bool a0_1, .int .i64 a0_2] 24 (0, 0)) (bp_1 BK657 NB657_691) hb); replace BK663 := Aside0.mk (blk_below (g := gb663) (o := .cells #[.slice Ao28 t658.length co28, .bool t661, .int .i64 t662] 24 (0, 0)) (bp_1 BK663 NB663_691) hb); replace BK670 := Aside0.mk (blk_below (g := gb670) (o := .cells #[.slice Ao33 t664.length co33, .bool t667, .int .i64 t668] 24 (0, 0)) (bp_1 BK670 NB670_691) hb); replace BK677 := Aside0.mk (blk_below (g := gb677) (o := .cells #[.slice Ao40 t671.length co40, .bool t674, .int .i64 t675] 24 (0, 0)) (bp_1 BK677 NB677_691) hb); replace BK684 := Aside0.mk (blk_below (g := gb684) (o := .cells #[.slice Ao48 t678.length co48, .bool t681, .int .i64 t682] 24 (0, 0)) (bp_1 BK684 NB684_691) hb); replace BK691 := Aside0.mk (blk_below (g := gb691) (o := .cells #[.slice Ao57 t685.length co57, .bool t688, .int .i64 t689] 24 (0, 0)) (bp_0 BK691) hb); replace HB := Aside0.mk (below_step (bl_6 HB GE657 GE663 GE670 GE677 GE684 GE691) hb); (try clear hb); (try clear hb2); (try clear hk); (try clear hi); (try clear ho0)) | ((with_reducible refine gate_dst (N := 18) rfl ?_); refine box_event ?hg (N := 18) ?hd (cs := #[.slice none 0 0, .bool false, .int .i64 0]) (t := 24) ?hr ?_; (case hd => rfl); (case hg => rfl); (case hr => first | (go_simp; done) | (go_simp; rfl)); intro gb698 hg w66 hbox hb; replace HO660 := Aside0.mk (Kd.R_below (by (with_reducible repeat (first | apply Kd.R_alloc | apply Kd.R_drewN | apply Kd.R_drew)); exact HO660.out) hb); replace HO666 := Aside0.mk (Kd.R_below (by (with_reducible repeat (first | apply Kd.R_alloc | apply Kd.R_drewN | apply Kd.R_drew)); exact HO666.out) hb); replace HO673 := Aside0.mk (Kd.R_below (by (with_reducible repeat (first | apply Kd.R_alloc | apply Kd.R_drewN | apply Kd.R_drew)); exact HO673.out) hb); replace HO680 := Aside0.mk (Kd.R_below (by (with_reducible repeat (first | apply Kd.R_alloc | apply Kd.R_drewN | apply Kd.R_drew)); exact HO680.out) hb); replace HO687 := Aside0.mk (Kd.R_below (by (with_reducible repeat (first | apply Kd.R_alloc | apply Kd.R_drewN | apply Kd.R_drew)); exact HO687.out) hb); replace HO694 := Aside0.mk (Kd.R_below (by (with_reducible repeat (first | apply Kd.R_alloc | apply Kd.R_drewN | apply Kd.R_drew)); exact HO694.out) hb); have BK698 := Aside0.mk (hbox); have GW698 := Aside0.mk (bs_6 hg HB GE657 GE663 GE670 GE677 GE684 GE691); have GE698 := Aside0.mk (bs_6 hg HB GE657 GE663 GE670 GE677 GE684 GE691); replace HB := Aside0.mk (below_step (bl_6 HB GE657 GE663 GE670 GE677 GE684 GE691) hb); have NB657_698 := Aside0.mk (nb_ hg BK657); have NB698_657 := Aside0.mk (nc_ hg BK657); replace BK657 := Aside0.mk (bb_ BK657 hb); have NB663_698 := Aside0.mk (nb_ hg BK663); have NB698_663 := Aside0.mk (nc_ hg BK663); replace BK663 := Aside0.mk (bb_ BK663 hb); have NB670_698 := Aside0.mk (nb_ hg BK670); have NB698_670 := Aside0.mk (nc_ hg BK670); replace BK670 := Aside0.mk (bb_ BK670 hb); have NB677_698 := Aside0.mk (nb_ hg BK677); have NB698_677 := Aside0.mk (nc_ hg BK677); replace BK677 := Aside0.mk (bb_ BK677 hb); have NB684_698 := Aside0.mk (nb_ hg BK684); have NB698_684 := Aside0.mk (nc_ hg BK684); replace BK684 := Aside0.mk (bb_ BK684 hb); have NB691_698 := Aside0.mk (nb_ hg BK691); have NB698_691 := Aside0.mk (nc_ hg BK691); replace BK691 := Aside0.mk (bb_ BK691 hb); clear hb hbox hg; obtain ⟨Ao67, co67, eo67⟩ := Kd.R_slice HO694.out; subst eo67; have hnb68 := NB698_657.out; have hnc68 := NB657_698.out; have hnb69 := NB698_663.out; have hnc69 := NB663_698.out; have hnb70 := NB698_670.out; have hnc70 := NB670_698.out; have hnb71 := NB698_677.out; have hnc71 := NB677_698.out; have hnb72 := NB698_684.out; have hnc72 := NB684_698.out; have hnb73 := NB698_691.out; have hnc73 := NB691_698.out; obtain ⟨hcz74_0, hcz74_1, hcz74_2, hfz74_0, hfz74_1, hfz74_2⟩ := c3_ BK698; obtain ⟨hcz75_0, hcz75_1, hcz75_2, hfz75_0, hfz75_1, hfz75_2⟩ := c3_ BK657) | ((with_reducible refine gate_callee (f := 24) rfl ?_); refine goesL_ (some 61) rfl rfl Try.func24 (by kernel_rfl) rfl #[.agg #[.slice A0_0 l0_0.length c0_0, .bool a0_1, .int .i64 a0_2], .string a1, .int .i64 a3] rfl (ar_) ?_; (with_reducible refine (gafferref02_Cut.calls k _ _ l0_0 a0_1 a0_2 a1 a3 t699 t702 t703 t704 _ ?side1 ?side2 A11.out).mono ?_); (case side1 => exact Kd.C_below HR0_0.out (by repeat (first | (with_reducible first | exact HB.out | apply below_alloc | apply pw_below_drewN | apply below_drew1 | refine below_set ?_ GE657.out | refine below_set ?_ GE663.out | refine below_set ?_ GE670.out | refine below_set ?_ GE677.out | refine below_set ?_ GE684.out | refine below_set ?_ GE691.out | refine below_set ?_ GE698.out) | exact HB.out))); (case side2 => exact HC0_0.out); rintro e w76 ⟨v700, rfl, ho0, hb⟩; refine ⟨_, rfl, ?_⟩; have HO701 := Aside0.mk (Kd.R_lower (Kd.R_new' (Kd.R_new' (Kd.R_new' (Kd.R_new' (Kd.R_new' (Kd.R_new' ho0 (Kd.R_lt (by (with_reducible repeat (first | apply Kd.R_alloc | apply Kd.R_drewN | apply Kd.R_drew)); exact (Kd.R_mono (Kd.R_far (p := ⟨gb698, 2, none⟩) (Kd.R_far (p := ⟨gb698, 1, none⟩) (Kd.R_far (p := ⟨gb698, 0, none⟩) (Kd.R_types HO660.out BK698.out (by decide)) (fun _ hk => hk.2) (.slice Ao67 t692.length co67)) (fun _ hk => hk.2) (.bool t695)) (fun _ hk => hk.2) (.int .i64 t696)) (fun _ h_ => h_.1))))) (Kd.R_lt (by (with_reducible repeat (first | apply Kd.R_alloc | apply Kd.R_drewN | apply Kd.R_drew)); exact (Kd.R_mono (Kd.R_far (p := ⟨gb698, 2, none⟩) (Kd.R_far (p := ⟨gb698, 1, none⟩) (Kd.R_far (p := ⟨gb698, 0, none⟩) (Kd.R_types HO666.out BK698.out (by decide)) (fun _ hk => hk.2) (.slice Ao67 t692.length co67)) (fun _ hk => hk.2) (.bool t695)) (fun _ hk => hk.2) (.int .i64 t696)) (fun _ h_ => h_.1))))) (Kd.R_lt (by (with_reducible repeat (first | apply Kd.R_alloc | apply Kd.R_drewN | apply Kd.R_drew)); exact (Kd.R_mono (Kd.R_far (p := ⟨gb698, 2, none⟩) (Kd.R_far (p := ⟨gb698, 1, none⟩) (Kd.R_far (p := ⟨gb698, 0, none⟩) (Kd.R_types HO673.out BK698.out (by decide)) (fun _ hk => hk.2) (.slice Ao67 t692.length co67)) (fun _ hk => hk.2) (.bool t695)) (fun _ hk => hk.2) (.int .i64 t696)) (fun _ h_ => h_.1))))) (Kd.R_lt (by (with_reducible repeat (first | apply Kd.R_alloc | apply Kd.R_drewN | apply Kd.R_drew)); exact (Kd.R_mono (Kd.R_far (p := ⟨gb698, 2, none⟩) (Kd.R_far (p := ⟨gb698, 1, none⟩) (Kd.R_far (p := ⟨gb698, 0, none⟩) (Kd.R_types HO680.out BK698.out (by decide)) (fun _ hk => hk.2) (.slice Ao67 t692.length co67)) (fun _ hk => hk.2) (.bool t695)) (fun _ hk => hk.2) (.int .i64 t696)) (fun _ h_ => h_.1))))) (Kd.R_lt (by (with_reducible repeat (first | apply Kd.R_alloc | apply Kd.R_drewN | apply Kd.R_drew)); exact (Kd.R_mono (Kd.R_far (p := ⟨gb698, 2, none⟩) (Kd.R_far (p := ⟨gb698, 1, none⟩) (Kd.R_far (p := ⟨gb698, 0, none⟩) (Kd.R_types HO687.out BK698.out (by decide)) (fun _ hk => hk.2) (.slice Ao67 t692.length co67)) (fun _ hk => hk.2) (.bool t695)) (fun _ hk => hk.2) (.int .i64 t696)) (fun _ h_ => h_.1))))) (Kd.R_lt (by (with_reducible repeat (first | apply Kd.R_alloc | apply Kd.R_drewN | apply Kd.R_drew)); exact (Kd.R_mono (Kd.R_far (p := ⟨gb698, 2, none⟩) (Kd.R_far (p := ⟨gb698, 1, none⟩) (Kd.R_far (p := ⟨gb698, 0, none⟩) (Kd.R_types HO694.out BK698.out (by decide)) (fun _ hk => hk.2) (.slice Ao67 t692.length co67)) (fun _ hk => hk.2) (.bool t695)) (fun _ hk => hk.2) (.int .i64 t696)) (fun _ h_ => h_.1))))) (below_size (by repeat (first | (with_reducible first | exact HB.out | apply below_alloc | apply pw_below_drewN | apply below_drew1 | refine below_set ?_ GE657.out | refine below_set ?_ GE663.out | refine below_set ?_ GE670.out | refine below_set ?_ GE677.out | refine below_set ?_ GE684.out | refine below_set ?_ GE691.out | refine below_set ?_ GE698.out) | exact HB.out)))); replace HO660 := Aside0.mk (Kd.R_elder' (by (with_reducible repeat (first | apply Kd.R_alloc | apply Kd.R_drewN | apply Kd.R_drew)); exact (Kd.R_mono (Kd.R_far (p := ⟨gb698, 2, none⟩) (Kd.R_far (p := ⟨gb698, 1, none⟩) (Kd.R_far (p := ⟨gb698, 0, none⟩) (Kd.R_types HO660.out BK698.out (by decide)) (fun _ hk => hk.2) (.slice Ao67 t692.length co67)) (fun _ hk => hk.2) (.bool t695)) (fun _ hk => hk.2) (.int .i64 t696)) (fun _ h_ => h_.1))) (Kd.R_base ho0) hb); replace HO666 := Aside0.mk (Kd.R_elder' (by (with_reducible repeat (first | apply Kd.R_alloc | apply Kd.R_drewN | apply Kd.R_drew)); exact (Kd.R_mono (Kd.R_far (p := ⟨gb698, 2, none⟩) (Kd.R_far (p := ⟨gb698, 1, none⟩) (Kd.R_far (p := ⟨gb698, 0, none⟩) (Kd.R_types HO666.out BK698.out (by decide)) (fun _ hk => hk.2) (.slice Ao67 t692.length co67)) (fun _ hk => hk.2) (.bool t695)) (fun _ hk => hk.2) (.int .i64 t696)) (fun _ h_ => h_.1))) (Kd.R_base ho0) hb); replace HO673 := Aside0.mk (Kd.R_elder' (by (with_reducible repeat (first | apply Kd.R_alloc | apply Kd.R_drewN | apply Kd.R_drew)); exact (Kd.R_mono (Kd.R_far (p := ⟨gb698, 2, none⟩) (Kd.R_far (p := ⟨gb698, 1, none⟩) (Kd.R_far (p := ⟨gb698, 0, none⟩) (Kd.R_types HO673.out BK698.out (by decide)) (fun _ hk => hk.2) (.slice Ao67 t692.length co67)) (fun _ hk => hk.2) (.bool t695)) (fun _ hk => hk.2) (.int .i64 t696)) (fun _ h_ => h_.1))) (Kd.R_base ho0) hb); replace HO680 := Aside0.mk (Kd.R_elder' (by (with_reducible repeat (first | apply Kd.R_alloc | apply Kd.R_drewN | apply Kd.R_drew)); exact (Kd.R_mono (Kd.R_far (p := ⟨gb698, 2, none⟩) (Kd.R_far (p := ⟨gb698, 1, none⟩) (Kd.R_far (p := ⟨gb698, 0, none⟩) (Kd.R_types HO680.out BK698.out (by decide)) (fun _ hk => hk.2) (.slice Ao67 t692.length co67)) (fun _ hk => hk.2) (.bool t695)) (fun _ hk => hk.2) (.int .i64 t696)) (fun _ h_ => h_.1))) (Kd.R_base ho0) hb); replace HO687 := Aside0.mk (Kd.R_elder' (by (with_reducible repeat (first | apply Kd.R_alloc | apply Kd.R_drewN | apply Kd.R_drew)); exact (Kd.R_mono (Kd.R_far (p := ⟨gb698, 2, none⟩) (Kd.R_far (p := ⟨gb698, 1, none⟩) (Kd.R_far (p := ⟨gb698, 0, none⟩) (Kd.R_types HO687.out BK698.out (by decide)) (fun _ hk => hk.2) (.slice Ao67 t692.length co67)) (fun _ hk => hk.2) (.bool t695)) (fun _ hk => hk.2) (.int .i64 t696)) (fun _ h_ => h_.1))) (Kd.R_base ho0) hb); replace HO694 := Aside0.mk (Kd.R_elder' (by (with_reducible repeat (first | apply Kd.R_alloc | apply Kd.R_drewN | apply Kd.R_drew)); exact (Kd.R_mono (Kd.R_far (p := ⟨gb698, 2, none⟩) (Kd.R_far (p := ⟨gb698, 1, none⟩) (Kd.R_far (p := ⟨gb698, 0, none⟩) (Kd.R_types HO694.out BK698.out (by decide)) (fun _ hk => hk.2) (.slice Ao67 t692.length co67)) (fun _ hk => hk.2) (.bool t695)) (fun _ hk => hk.2) (.int .i64 t696)) (fun _ h_ => h_.1))) (Kd.R_base ho0) hb); replace BK657 := Aside0.mk (blk_below (g := gb657) (o := .cells #[.slice A0_0 l0_0.length c0_0, .bool a0_1, .int .i64 a0_2] 24 (0, 0)) (bp_1 BK657 NB657_698) hb); replace BK663 := Aside0.mk (blk_below (g := gb663) (o := .cells #[.slice Ao28 t658.length co28, .bool t661, .int .i64 t662] 24 (0, 0)) (bp_1 BK663 NB663_698) hb); replace BK670 := Aside0.mk (blk_below (g := gb670) (o := .cells #[.slice Ao33 t664.length co33, .bool t667, .int .i64 t668] 24 (0, 0)) (bp_1 BK670 NB670_698) hb); replace BK677 := Aside0.mk (blk_below (g := gb677) (o := .cells #[.slice Ao40 t671.length co40, .bool t674, .int .i64 t675] 24 (0, 0)) (bp_1 BK677 NB677_698) hb); replace BK684 := Aside0.mk (blk_below (g := gb684) (o := .cells #[.slice Ao48 t678.length co48, .bool t681, .int .i64 t682] 24 (0, 0)) (bp_1 BK684 NB684_698) hb); replace BK691 := Aside0.mk (blk_below (g := gb691) (o := .cells #[.slice Ao57 t685.length co57, .bool t688, .int .i64 t689] 24 (0, 0)) (bp_1 BK691 NB691_698) hb); replace BK698 := Aside0.mk (blk_below (g := gb698) (o := .cells #[.slice Ao67 t692.length co67, .bool t695, .int .i64 t696] 24 (0, 0)) (bp_0 BK698) hb); replace HB := Aside0.mk (below_step (by repeat (first | (with_reducible first | exact HB.out | apply below_alloc | apply pw_below_drewN | apply below_drew1 | refine below_set ?_ GE657.out | refine below_set ?_ GE663.out | refine below_set ?_ GE670.out | refine below_set ?_ GE677.out | refine below_set ?_ GE684.out | refine below_set ?_ GE691.out | refine below_set ?_ GE698.out) | exact HB.out)) hb); (try clear hb); (try clear hb2); (try clear hk); (try clear hi); (try clear ho0)) | ((with_reducible refine gate_dst (N := 20) rfl ?_); refine box_event ?hg (N := 20) ?hd (cs := #[.slice none 0 0, .bool false, .int .i64 0]) (t := 24) ?hr ?_; (case hd => rfl); (case hg => rfl); (case hr => first | (go_simp; done) | (go_simp; rfl)); intro gb705 hg w77 hbox hb; replace HO660 := Aside0.mk (Kd.R_below (by (with_reducible repeat (first | apply Kd.R_alloc | apply Kd.R_drewN | apply Kd.R_drew)); exact HO660.out) hb); replace HO666 := Aside0.mk (Kd.R_below (by (with_reducible repeat (first | apply Kd.R_alloc | apply Kd.R_drewN | apply Kd.R_drew)); exact HO666.out) hb); replace HO673 := Aside0.mk (Kd.R_below (by (with_reducible repeat (first | apply Kd.R_alloc | apply Kd.R_drewN | apply Kd.R_drew)); exact HO673.out) hb); replace HO680 := Aside0.mk (Kd.R_below (by (with_reducible repeat (first | apply Kd.R_alloc | apply Kd.R_drewN | apply Kd.R_drew)); exact HO680.out) hb); replace HO687 := Aside0.mk (Kd.R_below (by (with_reducible repeat (first | apply Kd.R_alloc | apply Kd.R_drewN | apply Kd.R_drew)); exact HO687.out) hb); replace HO694 := Aside0.mk (Kd.R_below (by (with_reducible repeat (first | apply Kd.R_alloc | apply Kd.R_drewN | apply Kd.R_drew)); exact HO694.out) hb); replace HO701 := Aside0.mk (Kd.R_below (by (with_reducible repeat (first | apply Kd.R_alloc | apply Kd.R_drewN | apply Kd.R_drew)); exact HO701.out) hb); have BK705 := Aside0.mk (hbox); have GW705 := Aside0.mk ((by rw [hg]; exact (below_size (by repeat (first | (with_reducible first | exact HB.out | apply below_alloc | apply pw_below_drewN | apply below_drew1 | refine below_set ?_ GE657.out | refine below_set ?_ GE663.out | refine below_set ?_ GE670.out | refine below_set ?_ GE677.out | refine below_set ?_ GE684.out | refine below_set ?_ GE691.out | refine below_set ?_ GE698.out) | exact HB.out))) : w.heap.size ≤ gb705)); have GE705 := Aside0.mk ((by rw [hg]; exact (below_size (by repeat (first | (with_reducible first | exact HB.out | apply below_alloc | apply pw_below_drewN | apply below_drew1 | refine below_set ?_ GE657.out | refine below_set ?_ GE663.out | refine below_set ?_ GE670.out | refine below_set ?_ GE677.out | refine below_set ?_ GE684.out | refine below_set ?_ GE691.out | refine below_set ?_ GE698.out) | exact HB.out))) : w.heap.size ≤ gb705)); replace HB := Aside0.mk (below_step (by repeat (first | (with_reducible first | exact HB.out | apply below_alloc | apply pw_below_drewN | apply below_drew1 | refine below_set ?_ GE657.out | refine below_set ?_ GE663.out | refine below_set ?_ GE670.out | refine below_set ?_ GE677.out | refine below_set ?_ GE684.out | refine below_set ?_ GE691.out | refine below_set ?_ GE698.out) | exact HB.out)) hb); have NB657_705 := Aside0.mk (nb_ hg BK657); have NB705_657 := Aside0.mk (nc_ hg BK657); replace BK657 := Aside0.mk (bb_ BK657 hb); have NB663_705 := Aside0.mk (nb_ hg BK663); have NB705_663 := Aside0.mk (nc_ hg BK663); replace BK663 := Aside0.mk (bb_ BK663 hb); have NB670_705 := Aside0.mk (nb_ hg BK670); have NB705_670 := Aside0.mk (nc_ hg BK670); replace BK670 := Aside0.mk (bb_ BK670 hb); have NB677_705 := Aside0.mk (nb_ hg BK677); have NB705_677 := Aside0.mk (nc_ hg BK677); replace BK677 := Aside0.mk (bb_ BK677 hb); have NB684_705 := Aside0.mk (nb_ hg BK684); have NB705_684 := Aside0.mk (nc_ hg BK684); replace BK684 := Aside0.mk (bb_ BK684 hb); have NB691_705 := Aside0.mk (nb_ hg BK691); have NB705_691 := Aside0.mk (nc_ hg BK691); replace BK691 := Aside0.mk (bb_ BK691 hb); have NB698_705 := Aside0.mk (nb_ hg BK698); have NB705_698 := Aside0.mk (nc_ hg BK698); replace BK698 := Aside0.mk (bb_ BK698 hb); clear hb hbox hg; obtain ⟨Ao78, co78, eo78⟩ := Kd.R_slice HO701.out; subst eo78; have hnb79 := NB705_657.out; have hnc79 := NB657_705.out; have hnb80 := NB705_663.out; have hnc80 := NB663_705.out; have hnb81 := NB705_670.out; have hnc81 := NB670_705.out; have hnb82 := NB705_677.out; have hnc82 := NB677_705.out; have hnb83 := NB705_684.out; have hnc83 := NB684_705.out; have hnb84 := NB705_691.out; have hnc84 := NB691_705.out; have hnb85 := NB705_698.out; have hnc85 := NB698_705.out; obtain ⟨hcz86_0, hcz86_1, hcz86_2, hfz86_0, hfz86_1, hfz86_2⟩ := c3_ BK705) | ((with_reducible refine gate_callee (f := 14) rfl ?_); refine goesL_ (some 64) rfl rfl Try.func14 (by kernel_rfl) rfl #[] rfl (ar_) ?_; (with_reducible refine (gafferlaw02_lives.calls k  true _ A12.out).mono ?_); rintro e w87 ⟨rfl, hb⟩; refine ⟨_, rfl, ?_⟩; replace HO660 := Aside0.mk (Kd.R_below (by (with_reducible repeat (first | apply Kd.R_alloc | apply Kd.R_drewN | apply Kd.R_drew)); exact (Kd.R_mono (Kd.R_far (p := ⟨gb705, 2, none⟩) (Kd.R_far (p := ⟨gb705, 1, none⟩) (Kd.R_far (p := ⟨gb705, 0, none⟩) (Kd.R_types HO660.out BK705.out (by decide)) (fun _ hk => hk.2) (.slice Ao78 t699.length co78)) (fun _ hk => hk.2) (.bool t702)) (fun _ hk => hk.2) (.int .i64 t703)) (fun _ h_ => h_.1))) hb); replace HO666 := Aside0.mk (Kd.R_below (by (with_reducible repeat (first | apply Kd.R_alloc | apply Kd.R_drewN | apply Kd.R_drew)); exact (Kd.R_mono (Kd.R_far (p := ⟨gb705, 2, none⟩) (Kd.R_far (p := ⟨gb705, 1, none⟩) (Kd.R_far (p := ⟨gb705, 0, none⟩) (Kd.R_types HO666.out BK705.out (by decide)) (fun _ hk => hk.2) (.slice Ao78 t699.length co78)) (fun _ hk => hk.2) (.bool t702)) (fun _ hk => hk.2) (.int .i64 t703)) (fun _ h_ => h_.1))) hb); replace HO673 := Aside0.mk (Kd.R_below (by (with_reducible repeat (first | apply Kd.R_alloc | apply Kd.R_drewN | apply Kd.R_drew)); exact (Kd.R_mono (Kd.R_far (p := ⟨gb705, 2, none⟩) (Kd.R_far (p := ⟨gb705, 1, none⟩) (Kd.R_far (p := ⟨gb705, 0, none⟩) (Kd.R_types HO673.out BK705.out (by decide)) (fun _ hk => hk.2) (.slice Ao78 t699.length co78)) (fun _ hk => hk.2) (.bool t702)) (fun _ hk => hk.2) (.int .i64 t703)) (fun _ h_ => h_.1))) hb); replace HO680 := Aside0.mk (Kd.R_below (by (with_reducible repeat (first | apply Kd.R_alloc | apply Kd.R_drewN | apply Kd.R_drew)); exact (Kd.R_mono (Kd.R_far (p := ⟨gb705, 2, none⟩) (Kd.R_far (p := ⟨gb705, 1, none⟩) (Kd.R_far (p := ⟨gb705, 0, none⟩) (Kd.R_types HO680.out BK705.out (by decide)) (fun _ hk => hk.2) (.slice Ao78 t699.length co78)) (fun _ hk => hk.2) (.bool t702)) (fun _ hk => hk.2) (.int .i64 t703)) (fun _ h_ => h_.1))) hb); replace HO687 := Aside0.mk (Kd.R_below (by (with_reducible repeat (first | apply Kd.R_alloc | apply Kd.R_drewN | apply Kd.R_drew)); exact (Kd.R_mono (Kd.R_far (p := ⟨gb705, 2, none⟩) (Kd.R_far (p := ⟨gb705, 1, none⟩) (Kd.R_far (p := ⟨gb705, 0, none⟩) (Kd.R_types HO687.out BK705.out (by decide)) (fun _ hk => hk.2) (.slice Ao78 t699.length co78)) (fun _ hk => hk.2) (.bool t702)) (fun _ hk => hk.2) (.int .i64 t703)) (fun _ h_ => h_.1))) hb); replace HO694 := Aside0.mk (Kd.R_below (by (with_reducible repeat (first | apply Kd.R_alloc | apply Kd.R_drewN | apply Kd.R_drew)); exact (Kd.R_mono (Kd.R_far (p := ⟨gb705, 2, none⟩) (Kd.R_far (p := ⟨gb705, 1, none⟩) (Kd.R_far (p := ⟨gb705, 0, none⟩) (Kd.R_types HO694.out BK705.out (by decide)) (fun _ hk => hk.2) (.slice Ao78 t699.length co78)) (fun _ hk => hk.2) (.bool t702)) (fun _ hk => hk.2) (.int .i64 t703)) (fun _ h_ => h_.1))) hb); replace HO701 := Aside0.mk (Kd.R_below (by (with_reducible repeat (first | apply Kd.R_alloc | apply Kd.R_drewN | apply Kd.R_drew)); exact (Kd.R_mono (Kd.R_far (p := ⟨gb705, 2, none⟩) (Kd.R_far (p := ⟨gb705, 1, none⟩) (Kd.R_far (p := ⟨gb705, 0, none⟩) (Kd.R_types HO701.out BK705.out (by decide)) (fun _ hk => hk.2) (.slice Ao78 t699.length co78)) (fun _ hk => hk.2) (.bool t702)) (fun _ hk => hk.2) (.int .i64 t703)) (fun _ h_ => h_.1))) hb); replace BK657 := Aside0.mk (blk_below (g := gb657) (o := .cells #[.slice A0_0 l0_0.length c0_0, .bool a0_1, .int .i64 a0_2] 24 (0, 0)) (bp_1 BK657 NB657_705) hb); replace BK663 := Aside0.mk (blk_below (g := gb663) (o := .cells #[.slice Ao28 t658.length co28, .bool t661, .int .i64 t662] 24 (0, 0)) (bp_1 BK663 NB663_705) hb); replace BK670 := Aside0.mk (blk_below (g := gb670) (o := .cells #[.slice Ao33 t664.length co33, .bool t667, .int .i64 t668] 24 (0, 0)) (bp_1 BK670 NB670_705) hb); replace BK677 := Aside0.mk (blk_below (g := gb677) (o := .cells #[.slice Ao40 t671.length co40, .bool t674, .int .i64 t675] 24 (0, 0)) (bp_1 BK677 NB677_705) hb); replace BK684 := Aside0.mk (blk_below (g := gb684) (o := .cells #[.slice Ao48 t678.length co48, .bool t681, .int .i64 t682] 24 (0, 0)) (bp_1 BK684 NB684_705) hb); replace BK691 := Aside0.mk (blk_below (g := gb691) (o := .cells #[.slice Ao57 t685.length co57, .bool t688, .int .i64 t689] 24 (0, 0)) (bp_1 BK691 NB691_705) hb); replace BK698 := Aside0.mk (blk_below (g := gb698) (o := .cells #[.slice Ao67 t692.length co67, .bool t695, .int .i64 t696] 24 (0, 0)) (bp_1 BK698 NB698_705) hb); replace BK705 := Aside0.mk (blk_below (g := gb705) (o := .cells #[.slice Ao78 t699.length co78, .bool t702, .int .i64 t703] 24 (0, 0)) (bp_0 BK705) hb); replace HB := Aside0.mk (below_step (by repeat (first | (with_reducible first | exact HB.out | apply below_alloc | apply pw_below_drewN | apply below_drew1 | refine below_set ?_ GE657.out | refine below_set ?_ GE663.out | refine below_set ?_ GE670.out | refine below_set ?_ GE677.out | refine below_set ?_ GE684.out | refine below_set ?_ GE691.out | refine below_set ?_ GE698.out | refine below_set ?_ GE705.out) | exact HB.out)) hb); (try clear hb); (try clear hb2); (try clear hk); (try clear hi); obtain ⟨hcz88_0, hcz88_1, hcz88_2, hfz88_0, hfz88_1, hfz88_2⟩ := c3_ BK670; obtain ⟨hcz89_0, hcz89_1, hcz89_2, hfz89_0, hfz89_1, hfz89_2⟩ := c3_ BK677) | (go_at_call 15; (with_reducible refine (gafferref02_Same.calls k _ _ t664 t667 t668 _ _ t671 t674 t675 true _ ?side1 ?side2 ?side3 ?side4 A14.out).mono ?_); (case side1 => repeat (first | exact (Kd.R_reads' HO666.out).2.2 | (with_reducible refine Kd.C_alloc ?_ _) | (with_reducible refine Kd.C_drewN ?_ _) | (with_reducible refine Kd.C_drew ?_))); (case side2 => exact (Kd.R_reads' HO666.out).2.1); (case side3 => repeat (first | exact (Kd.R_reads' HO673.out).2.2 | (with_reducible refine Kd.C_alloc ?_ _) | (with_reducible refine Kd.C_drewN ?_ _) | (with_reducible refine Kd.C_drew ?_))); (case side4 => exact (Kd.R_reads' HO673.out).2.1); rintro e w90 ⟨rfl, hb⟩; replace HO660 := Aside0.mk (Kd.R_below (by (with_reducible repeat (first | apply Kd.R_alloc | apply Kd.R_drewN | apply Kd.R_drew)); exact HO660.out) hb); replace HO666 := Aside0.mk (Kd.R_below (by (with_reducible repeat (first | apply Kd.R_alloc | apply Kd.R_drewN | apply Kd.R_drew)); exact HO666.out) hb); replace HO673 := Aside0.mk (Kd.R_below (by (with_reducible repeat (first | apply Kd.R_alloc | apply Kd.R_drewN | apply Kd.R_drew)); exact HO673.out) hb); replace HO680 := Aside0.mk (Kd.R_below (by (with_reducible repeat (first | apply Kd.R_alloc | apply Kd.R_drewN | apply Kd.R_drew)); exact HO680.out) hb); replace HO687 := Aside0.mk (Kd.R_below (by (with_reducible repeat (first | apply Kd.R_alloc | apply Kd.R_drewN | apply Kd.R_drew)); exact HO687.out) hb); replace HO694 := Aside0.mk (Kd.R_below (by (with_reducible repeat (first | apply Kd.R_alloc | apply Kd.R_drewN | apply Kd.R_drew)); exact HO694.out) hb); replace HO701 := Aside0.mk (Kd.R_below (by (with_reducible repeat (first | apply Kd.R_alloc | apply Kd.R_drewN | apply Kd.R_drew)); exact HO701.out) hb); replace BK657 := Aside0.mk (bb_ BK657 hb); replace BK663 := Aside0.mk (bb_ BK663 hb); replace BK670 := Aside0.mk (bb_ BK670 hb); replace BK677 := Aside0.mk (bb_ BK677 hb); replace BK684 := Aside0.mk (bb_ BK684 hb); replace BK691 := Aside0.mk (bb_ BK691 hb); replace BK698 := Aside0.mk (bb_ BK698 hb); replace BK705 := Aside0.mk (bb_ BK705 hb); replace HB := Aside0.mk (below_step (by repeat (first | (with_reducible first | exact HB.out | apply below_alloc | apply pw_below_drewN | apply below_drew1 | refine below_set ?_ GE657.out | refine below_set ?_ GE663.out | refine below_set ?_ GE670.out | refine below_set ?_ GE677.out | refine below_set ?_ GE684.out | refine below_set ?_ GE691.out | refine below_set ?_ GE698.out | refine below_set ?_ GE705.out) | exact HB.out)) hb); (try clear hb); (try clear hb2); (try clear hk); (try clear hi); obtain ⟨hcz91_0, hcz91_1, hcz91_2, hfz91_0, hfz91_1, hfz91_2⟩ := c3_ BK684; obtain ⟨hcz92_0, hcz92_1, hcz92_2, hfz92_0, hfz92_1, hfz92_2⟩ := c3_ BK691) | (go_at_call 15; (with_reducible refine (gafferref02_Same.calls k _ _ t678 t681 t682 _ _ t685 t688 t689 true _ ?side1 ?side2 ?side3 ?side4 A17.out).mono ?_); (case side1 => repeat (first | exact (Kd.R_reads' HO680.out).2.2 | (with_reducible refine Kd.C_alloc ?_ _) | (with_reducible refine Kd.C_drewN ?_ _) | (with_reducible refine Kd.C_drew ?_))); (case side2 => exact (Kd.R_reads' HO680.out).2.1); (case side3 => repeat (first | exact (Kd.R_reads' HO687.out).2.2 | (with_reducible refine Kd.C_alloc ?_ _) | (with_reducible refine Kd.C_drewN ?_ _) | (with_reducible refine Kd.C_drew ?_))); (case side4 => exact (Kd.R_reads' HO687.out).2.1); rintro e w93 ⟨rfl, hb⟩; replace HO660 := Aside0.mk (Kd.R_below (by (with_reducible repeat (first | apply Kd.R_alloc | apply Kd.R_drewN | apply Kd.R_drew)); exact HO660.out) hb); replace HO666 := Aside0.mk (Kd.R_below (by (with_reducible repeat (first | apply Kd.R_alloc | apply Kd.R_drewN | apply Kd.R_drew)); exact HO666.out) hb); replace HO673 := Aside0.mk (Kd.R_below (by (with_reducible repeat (first | apply Kd.R_alloc | apply Kd.R_drewN | apply Kd.R_drew)); exact HO673.out) hb); replace HO680 := Aside0.mk (Kd.R_below (by (with_reducible repeat (first | apply Kd.R_alloc | apply Kd.R_drewN | apply Kd.R_drew)); exact HO680.out) hb); replace HO687 := Aside0.mk (Kd.R_below (by (with_reducible repeat (first | apply Kd.R_alloc | apply Kd.R_drewN | apply Kd.R_drew)); exact HO687.out) hb); replace HO694 := Aside0.mk (Kd.R_below (by (with_reducible repeat (first | apply Kd.R_alloc | apply Kd.R_drewN | apply Kd.R_drew)); exact HO694.out) hb); replace HO701 := Aside0.mk (Kd.R_below (by (with_reducible repeat (first | apply Kd.R_alloc | apply Kd.R_drewN | apply Kd.R_drew)); exact HO701.out) hb); replace BK657 := Aside0.mk (bb_ BK657 hb); replace BK663 := Aside0.mk (bb_ BK663 hb); replace BK670 := Aside0.mk (bb_ BK670 hb); replace BK677 := Aside0.mk (bb_ BK677 hb); replace BK684 := Aside0.mk (bb_ BK684 hb); replace BK691 := Aside0.mk (bb_ BK691 hb); replace BK698 := Aside0.mk (bb_ BK698 hb); replace BK705 := Aside0.mk (bb_ BK705 hb); replace HB := Aside0.mk (below_step (by repeat (first | (with_reducible first | exact HB.out | apply below_alloc | apply pw_below_drewN | apply below_drew1 | refine below_set ?_ GE657.out | refine below_set ?_ GE663.out | refine below_set ?_ GE670.out | refine below_set ?_ GE677.out | refine below_set ?_ GE684.out | refine below_set ?_ GE691.out | refine below_set ?_ GE698.out | refine below_set ?_ GE705.out) | exact HB.out)) hb); (try clear hb); (try clear hb2); (try clear hk); (try clear hi); obtain ⟨hcz94_0, hcz94_1, hcz94_2, hfz94_0, hfz94_1, hfz94_2⟩ := c3_ BK698; obtain ⟨hcz95_0, hcz95_1, hcz95_2, hfz95_0, hfz95_1, hfz95_2⟩ := c3_ BK705) | (go_at_call 15; (with_reducible refine (gafferref02_Same.calls k _ _ t692 t695 t696 _ _ t699 t702 t703 true _ ?side1 ?side2 ?side3 ?side4 A20.out).mono ?_); (case side1 => repeat (first | exact (Kd.R_reads' HO694.out).2.2 | (with_reducible refine Kd.C_alloc ?_ _) | (with_reducible refine Kd.C_drewN ?_ _) | (with_reducible refine Kd.C_drew ?_))); (case side2 => exact (Kd.R_reads' HO694.out).2.1); (case side3 => repeat (first | exact (Kd.R_reads' HO701.out).2.2 | (with_reducible refine Kd.C_alloc ?_ _) | (with_reducible refine Kd.C_drewN ?_ _) | (with_reducible refine Kd.C_drew ?_))); (case side4 => exact (Kd.R_reads' HO701.out).2.1); rintro e w96 ⟨rfl, hb⟩; replace HO660 := Aside0.mk (Kd.R_below (by (with_reducible repeat (first | apply Kd.R_alloc | apply Kd.R_drewN | apply Kd.R_drew)); exact HO660.out) hb); replace HO666 := Aside0.mk (Kd.R_below (by (with_reducible repeat (first | apply Kd.R_alloc | apply Kd.R_drewN | apply Kd.R_drew)); exact HO666.out) hb); replace HO673 := Aside0.mk (Kd.R_below (by (with_reducible repeat (first | apply Kd.R_alloc | apply Kd.R_drewN | apply Kd.R_drew)); exact HO673.out) hb); replace HO680 := Aside0.mk (Kd.R_below (by (with_reducible repeat (first | apply Kd.R_alloc | apply Kd.R_drewN | apply Kd.R_drew)); exact HO680.out) hb); replace HO687 := Aside0.mk (Kd.R_below (by (with_reducible repeat (first | apply Kd.R_alloc | apply Kd.R_drewN | apply Kd.R_drew)); exact HO687.out) hb); replace HO694 := Aside0.mk (Kd.R_below (by (with_reducible repeat (first | apply Kd.R_alloc | apply Kd.R_drewN | apply Kd.R_drew)); exact HO694.out) hb); replace HO701 := Aside0.mk (Kd.R_below (by (with_reducible repeat (first | apply Kd.R_alloc | apply Kd.R_drewN | apply Kd.R_drew)); exact HO701.out) hb); replace BK657 := Aside0.mk (bb_ BK657 hb); replace BK663 := Aside0.mk (bb_ BK663 hb); replace BK670 := Aside0.mk (bb_ BK670 hb); replace BK677 := Aside0.mk (bb_ BK677 hb); replace BK684 := Aside0.mk (bb_ BK684 hb); replace BK691 := Aside0.mk (bb_ BK691 hb); replace BK698 := Aside0.mk (bb_ BK698 hb); replace BK705 := Aside0.mk (bb_ BK705 hb); replace HB := Aside0.mk (below_step (by repeat (first | (with_reducible first | exact HB.out | apply below_alloc | apply pw_below_drewN | apply below_drew1 | refine below_set ?_ GE657.out | refine below_set ?_ GE663.out | refine below_set ?_ GE670.out | refine below_set ?_ GE677.out | refine below_set ?_ GE684.out | refine below_set ?_ GE691.out | refine below_set ?_ GE698.out | refine below_set ?_ GE705.out) | exact HB.out)) hb); (try clear hb); (try clear hb2); (try clear hk); (try clear hi); obtain ⟨hcz97_0, hcz97_1, hcz97_2, hfz97_0, hfz97_1, hfz97_2⟩ := c3_ BK663; obtain ⟨hcz98_0, hcz98_1, hcz98_2, hfz98_0, hfz98_1, hfz98_2⟩ := c3_ BK657) | (go_at_call 15; (with_reducible refine (gafferref02_Same.calls k _ _ t658 t661 t662 _ _ l0_0 a0_1 a0_2 t710 _ ?side1 ?side2 ?side3 ?side4 A23.out).mono ?_); (case side1 => repeat (first | exact (Kd.R_reads' HO660.out).2.2 | (with_reducible refine Kd.C_alloc ?_ _) | (with_reducible refine Kd.C_drewN ?_ _) | (with_reducible refine Kd.C_drew ?_))); (case side2 => exact (Kd.R_reads' HO660.out).2.1); (case side3 => repeat (first | exact (Kd.C_below HR0_0.out HB.out) | (with_reducible refine Kd.C_alloc ?_ _) | (with_reducible refine Kd.C_drewN ?_ _) | (with_reducible refine Kd.C_drew ?_))); (case side4 => exact HC0_0.out); rintro e w99 ⟨rfl, hb⟩; replace HO660 := Aside0.mk (Kd.R_below (by (with_reducible repeat (first | apply Kd.R_alloc | apply Kd.R_drewN | apply Kd.R_drew)); exact HO660.out) hb); replace HO666 := Aside0.mk (Kd.R_below (by (with_reducible repeat (first | apply Kd.R_alloc | apply Kd.R_drewN | apply Kd.R_drew)); exact HO666.out) hb); replace HO673 := Aside0.mk (Kd.R_below (by (with_reducible repeat (first | apply Kd.R_alloc | apply Kd.R_drewN | apply Kd.R_drew)); exact HO673.out) hb); replace HO680 := Aside0.mk (Kd.R_below (by (with_reducible repeat (first | apply Kd.R_alloc | apply Kd.R_drewN | apply Kd.R_drew)); exact HO680.out) hb); replace HO687 := Aside0.mk (Kd.R_below (by (with_reducible repeat (first | apply Kd.R_alloc | apply Kd.R_drewN | apply Kd.R_drew)); exact HO687.out) hb); replace HO694 := Aside0.mk (Kd.R_below (by (with_reducible repeat (first | apply Kd.R_alloc | apply Kd.R_drewN | apply Kd.R_drew)); exact HO694.out) hb); replace HO701 := Aside0.mk (Kd.R_below (by (with_reducible repeat (first | apply Kd.R_alloc | apply Kd.R_drewN | apply Kd.R_drew)); exact HO701.out) hb); replace BK657 := Aside0.mk (bb_ BK657 hb); replace BK663 := Aside0.mk (bb_ BK663 hb); replace BK670 := Aside0.mk (bb_ BK670 hb); replace BK677 := Aside0.mk (bb_ BK677 hb); replace BK684 := Aside0.mk (bb_ BK684 hb); replace BK691 := Aside0.mk (bb_ BK691 hb); replace BK698 := Aside0.mk (bb_ BK698 hb); replace BK705 := Aside0.mk (bb_ BK705 hb); replace HB := Aside0.mk (below_step (by repeat (first | (with_reducible first | exact HB.out | apply below_alloc | apply pw_below_drewN | apply below_drew1 | refine below_set ?_ GE657.out | refine below_set ?_ GE663.out | refine below_set ?_ GE670.out | refine below_set ?_ GE677.out | refine below_set ?_ GE684.out | refine below_set ?_ GE691.out | refine below_set ?_ GE698.out | refine below_set ?_ GE705.out) | exact HB.out)) hb); (try clear hb); (try clear hb2); (try clear hk); (try clear hi)))
        go_ret
        exact ⟨by first | rfl | (simp; done) | (simp [*]; done), by repeat (first | (with_reducible first | exact HB.out | apply below_alloc | apply pw_below_drewN | apply below_drew1 | refine below_set ?_ GE657.out | refine below_set ?_ GE663.out | refine below_set ?_ GE670.out | refine below_set ?_ GE677.out | refine below_set ?_ GE684.out | refine below_set ?_ GE691.out | refine below_set ?_ GE698.out | refine below_set ?_ GE705.out) | exact HB.out)⟩
       ·rw [if_neg c22] at H
        have c22b0 : (t697 == t704) = false := beq_eq_false_iff_ne.mpr c22
        have c22b1 : (t697 != t704) = true := bne_iff_ne.mpr c22
        exact absurd (H.trans (congrArg some hr)) (by simp)
      ·replace c21 := Bool.eq_false_iff.mpr c21
       subst c21
       have H1 : (some false) = some r := by rw [if_neg (show ¬ (false = true) by decide)] at H; exact H
       clear H
       have H := H1
       clear H1
       exact absurd (H.trans (congrArg some hr)) (by simp)
     ·rw [if_neg c19] at H
      have c19b0 : (t683 == t690) = false := beq_eq_false_iff_ne.mpr c19
      have c19b1 : (t683 != t690) = true := bne_iff_ne.mpr c19
      exact absurd (H.trans (congrArg some hr)) (by simp)
    ·replace c18 := Bool.eq_false_iff.mpr c18
     subst c18
     have H1 : (some false) = some r := by rw [if_neg (show ¬ (false = true) by decide)] at H; exact H
     clear H
     have H := H1
     clear H1
     exact absurd (H.trans (congrArg some hr)) (by simp)
   ·rw [if_neg c16] at H
    have c16b0 : (t669 == t676) = false := beq_eq_false_iff_ne.mpr c16
    have c16b1 : (t669 != t676) = true := bne_iff_ne.mpr c16
    exact absurd (H.trans (congrArg some hr)) (by simp)
  ·replace c15 := Bool.eq_false_iff.mpr c15
   subst c15
   have H1 : (some false) = some r := by rw [if_neg (show ¬ (false = true) by decide)] at H; exact H
   clear H
   have H := H1
   clear H1
   exact absurd (H.trans (congrArg some hr)) (by simp)
 ·replace c13 := Bool.eq_false_iff.mpr c13
  subst c13
  have H1 : (some false) = some r := by rw [if_neg (show ¬ (false = true) by decide)] at H; exact H
  clear H
  have H := H1
  clear H1
  exact absurd (H.trans (congrArg some hr)) (by simp)

/-- THE ONE PURE STATEMENT of gafferlaw02_DiskChanges: yours. -/
def gafferlaw02_DiskChanges.Pure : Prop := ∀ (x0 : S24) (x1 : ByteArray) (x2 : ByteArray) (x3 : Int), ok24 x0 → okStr x1 → okStr x2 → (okInt .i64) x3 → ∃ k, gafferlaw02_DiskChanges.f k x0.f0 x0.f1 x0.f2 x1 x2 x3 = some true

end Go.Proofs.Ytpdacpopkegecaa.PA
