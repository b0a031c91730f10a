-- Written for this claim by a program of this session. Lean checks it.
import Derived.Test.YtpdacpopkegecaaPAx0
import Derived.Test.YtpdacpopkegecaaPAx2
import Derived.Test.YtpdacpopkegecaaPAx3
import Derived.Test.YtpdacpopkegecaaPAx4
import Derived.Test.YtpdacpopkegecaaPAx8
import Derived.Test.YtpdacpopkegecaaPAx9
namespace Go.Proofs.Ytpdacpopkegecaa.PA
open Go.RowKit Go.Proofs.YtpdacpopkegecaaW.PrintWords Go.Proofs.YtpdacpopkegecaaW.PrintLast Go.Proofs.YtpdacpopkegecaaW.PrintMore Go.Proofs.Ytpdacpopkegecaa.Sh Go.Proofs.Ytpdacpopkegecaa.Op
attribute [local go_sem] max2_int min2_int max_two min_two max_three min_three max_four min_four   -- for this text's walks alone
set_option linter.unusedVariables false
set_option linter.unusedSimpArgs false

/-! ### gafferlaw02_DiskSafe: function 4 -/
mutual
def gafferlaw02_DiskSafe.j0 : Nat → List Int → Bool → List (S35) → Bool → Int → List (S35) → Bool → Int → Option (Bool)
 | 0, _, _, _, _, _, _, _, _ => none
 | k + 1, x2, x54, x469000, x469001, x469002, x477000, x477001, x477002 => if x54 = true then (some false) else (gafferlaw02_DiskSafe.l0 k x2 x477000 (x477000.length : Int) 0 x469000 x469001 x469002 x477000 x477001 x477002)
def gafferlaw02_DiskSafe.l0 : Nat → List Int → List (S35) → Int → Int → List (S35) → Bool → Int → List (S35) → Bool → Int → Option (Bool)
 | 0, _, _, _, _, _, _, _, _, _, _ => none
 | k + 1, x2, x56, x57, x58, x469000, x469001, x469002, x477000, x477001, x477002 => if x58 < x57 then (if 0 ≤ x58 then (if x58 < (x56.length : Int) then (if x58 < (x469000.length : Int) then (if ((rd_T35 x56 x58).f0).toList = ((rd_T35 x469000 x58).f0).toList then (if ((rd_T35 x56 x58).f2) = (((rd_T35 x56 x58).f1).size : Int) then (if (((rd_T35 x56 x58).f1).size : Int) < ((rd_T35 x469000 x58).f2) then (some false) else (if (((rd_T35 x56 x58).f1).size : Int) > (((rd_T35 x469000 x58).f1).size : Int) then (some false) else (if 0 ≤ (((rd_T35 x56 x58).f1).size : Int) then (if (((rd_T35 x56 x58).f1).size : Int) ≤ (((rd_T35 x469000 x58).f1).size : Int) then (if (((rd_T35 x469000 x58).f1).extract 0 ((rd_T35 x56 x58).f1).size).toList = ((rd_T35 x56 x58).f1).toList then (gafferlaw02_DiskSafe.l0 k x2 x56 x57 (wrap64 (x58 + 1)) x469000 x469001 x469002 x477000 x477001 x477002) else (some false)) else (none)) else (none)))) else (some false)) else (some false)) else (none)) else (none)) else (none)) else ((disk_Crash.f k x477000 x477001 x477002 x2).bind fun bt483 => (if bt483.2.2.2 = 0 then ((gafferref02_Same.f k x477000 x477001 x477002 bt483.1 bt483.2.1 bt483.2.2.1).bind fun t490 => (some t490)) else (some false)))
end
def gafferlaw02_DiskSafe.f (k : Nat) (l0_0 : List (S35)) (a0_1 : Bool) (a0_2 : Int) (l1 : List Int) (l2 : List Int) : Option (Bool) := (gafferlaw02_lives.f k).bind fun t469 => (if t469 = true then ((disk_Crash.f k l0_0 a0_1 a0_2 l1).bind fun bt470 => (if bt470.2.2.2 = 0 then (if (bt470.1.length : Int) = (l0_0.length : Int) then (if bt470.2.1 = true then (gafferlaw02_DiskSafe.j0 k l2 true l0_0 a0_1 a0_2 bt470.1 bt470.2.1 bt470.2.2.1) else (if bt470.2.2.1 = (-1) then ((disk_Check.f k bt470.1 bt470.2.1 bt470.2.2.1).bind fun t478 => (gafferlaw02_DiskSafe.j0 k l2 (t478 != 0) l0_0 a0_1 a0_2 bt470.1 bt470.2.1 bt470.2.2.1)) else (gafferlaw02_DiskSafe.j0 k l2 true l0_0 a0_1 a0_2 bt470.1 bt470.2.1 bt470.2.2.1))) else (gafferlaw02_DiskSafe.j0 k l2 true l0_0 a0_1 a0_2 bt470.1 bt470.2.1 bt470.2.2.1)) else (if (bt470.1.length : Int) = 0 then ((disk_Check.f k l0_0 a0_1 a0_2).bind fun t477 => (some (t477 == bt470.2.2.2))) else (some false)))) else (some false))
theorem gafferlaw02_DiskSafe.mono_l : ∀ k, (∀ y0 y1 y2 y3 y4 y5 y6 y7, LeO (gafferlaw02_DiskSafe.j0 k y0 y1 y2 y3 y4 y5 y6 y7) (gafferlaw02_DiskSafe.j0 (k + 1) y0 y1 y2 y3 y4 y5 y6 y7)) ∧ (∀ y0 y1 y2 y3 y4 y5 y6 y7 y8 y9, LeO (gafferlaw02_DiskSafe.l0 k y0 y1 y2 y3 y4 y5 y6 y7 y8 y9) (gafferlaw02_DiskSafe.l0 (k + 1) y0 y1 y2 y3 y4 y5 y6 y7 y8 y9))
 | 0 => ⟨fun _ _ _ _ _ _ _ _ r h => by simp [gafferlaw02_DiskSafe.j0] at h, fun _ _ _ _ _ _ _ _ _ _ r h => by simp [gafferlaw02_DiskSafe.l0] at h⟩
 | k + 1 => by
  obtain ⟨ih0, ih1⟩ := gafferlaw02_DiskSafe.mono_l k
  refine ⟨?_, ?_⟩
  ·intro y0 y1 y2 y3 y4 y5 y6 y7
   unfold gafferlaw02_DiskSafe.j0
   repeat' first
   | (with_reducible exact ih0 _ _ _ _ _ _ _ _)
   | (with_reducible exact ih1 _ _ _ _ _ _ _ _ _ _)
   | (with_reducible exact disk_Check.mono _ _ _ _)
   | (with_reducible exact disk_Crash.mono _ _ _ _ _)
   | (with_reducible exact gafferlaw02_lives.mono _)
   | (with_reducible exact gafferref02_Same.mono _ _ _ _ _ _ _)
   | (with_reducible exact LeO.refl _)
   | (with_reducible exact LeO.none _)
   | (with_reducible refine LeO.ite ?_ ?_)
   | (with_reducible refine LeO.bind ?_ (fun _ => ?_))
   | exact ih0 _ _ _ _ _ _ _ _
   | exact ih1 _ _ _ _ _ _ _ _ _ _
   | exact disk_Check.mono _ _ _ _
   | exact disk_Crash.mono _ _ _ _ _
   | exact gafferlaw02_lives.mono _
   | exact gafferref02_Same.mono _ _ _ _ _ _ _
   | exact LeO.none _
   | refine LeO.ite ?_ ?_
   | refine LeO.bind ?_ (fun _ => ?_)
  ·intro y0 y1 y2 y3 y4 y5 y6 y7 y8 y9
   unfold gafferlaw02_DiskSafe.l0
   repeat' first
   | (with_reducible exact ih0 _ _ _ _ _ _ _ _)
   | (with_reducible exact ih1 _ _ _ _ _ _ _ _ _ _)
   | (with_reducible exact disk_Check.mono _ _ _ _)
   | (with_reducible exact disk_Crash.mono _ _ _ _ _)
   | (with_reducible exact gafferlaw02_lives.mono _)
   | (with_reducible exact gafferref02_Same.mono _ _ _ _ _ _ _)
   | (with_reducible exact LeO.refl _)
   | (with_reducible exact LeO.none _)
   | (with_reducible refine LeO.ite ?_ ?_)
   | (with_reducible refine LeO.bind ?_ (fun _ => ?_))
   | exact ih0 _ _ _ _ _ _ _ _
   | exact ih1 _ _ _ _ _ _ _ _ _ _
   | exact disk_Check.mono _ _ _ _
   | exact disk_Crash.mono _ _ _ _ _
   | exact gafferlaw02_lives.mono _
   | exact gafferref02_Same.mono _ _ _ _ _ _ _
   | exact LeO.none _
   | refine LeO.ite ?_ ?_
   | refine LeO.bind ?_ (fun _ => ?_)
theorem gafferlaw02_DiskSafe.mono : ∀ a0 a1 a2 a3 a4 k, LeO (gafferlaw02_DiskSafe.f k a0 a1 a2 a3 a4) (gafferlaw02_DiskSafe.f (k + 1) a0 a1 a2 a3 a4) := by
 intro a0 a1 a2 a3 a4 k
 obtain ⟨ih0, ih1⟩ := gafferlaw02_DiskSafe.mono_l k
 unfold gafferlaw02_DiskSafe.f
 repeat' first
   | (with_reducible exact ih0 _ _ _ _ _ _ _ _)
   | (with_reducible exact ih1 _ _ _ _ _ _ _ _ _ _)
   | (with_reducible exact disk_Check.mono _ _ _ _)
   | (with_reducible exact disk_Crash.mono _ _ _ _ _)
   | (with_reducible exact gafferlaw02_lives.mono _)
   | (with_reducible exact gafferref02_Same.mono _ _ _ _ _ _ _)
   | (with_reducible exact LeO.refl _)
   | (with_reducible exact LeO.none _)
   | (with_reducible refine LeO.ite ?_ ?_)
   | (with_reducible refine LeO.bind ?_ (fun _ => ?_))
   | exact ih0 _ _ _ _ _ _ _ _
   | exact ih1 _ _ _ _ _ _ _ _ _ _
   | exact disk_Check.mono _ _ _ _
   | exact disk_Crash.mono _ _ _ _ _
   | exact gafferlaw02_lives.mono _
   | exact gafferref02_Same.mono _ _ _ _ _ _ _
   | exact LeO.none _
   | refine LeO.ite ?_ ?_
   | refine LeO.bind ?_ (fun _ => ?_)
set_option maxHeartbeats 80000000 in
set_option maxRecDepth 100000 in
theorem gafferlaw02_DiskSafe.calls (k : Nat) (A0_0 : Option Addr) (c0_0 : Nat) (l0_0 : List (S35)) (a0_1 : Bool) (a0_2 : Int) (A1 : Option Addr) (c1 : Nat) (l1 : List Int) (A2 : Option Addr) (c2 : Nat) (l2 : List Int) (r : Bool) (w : World) (hr0_0 : Kd.C k35 w A0_0 l0_0.length l0_0) (hc0_0 : l0_0.length ≤ c0_0) (hr1 : Kd.C (Kd.int .i64) w A1 l1.length l1) (hc1 : l1.length ≤ c1) (hr2 : Kd.C (Kd.int .i64) w A2 l2.length l2) (hc2 : l2.length ≤ c2) (h : gafferlaw02_DiskSafe.f k l0_0 a0_1 a0_2 l1 l2 = some r) (hr : r = true) :
  Calls Try.prog 4 #[.agg #[.slice A0_0 l0_0.length c0_0, .bool a0_1, .int .i64 a0_2], .slice A1 l1.length c1, .slice A2 l2.length c2] w fun e w' => e = .returned (.bool r) ∧ Below w.heap.size w w' := by
 have hu24 := Try.underlying24
 have hu35 := Try.underlying35
 have HR0_0 := Aside0.mk hr0_0
 have HC0_0 := Aside0.mk hc0_0
 clear hr0_0 hc0_0
 have HR1 := Aside0.mk hr1
 have HC1 := Aside0.mk hc1
 clear hr1 hc1
 have HR2 := Aside0.mk hr2
 have HC2 := Aside0.mk hc2
 clear hr2 hc2
 have HB := Aside0.mk (Below.refl w.heap.size w)
 have H : ((gafferlaw02_lives.f k).bind fun t469 => (if t469 = true then ((disk_Crash.f k l0_0 a0_1 a0_2 l1).bind fun bt470 => (if bt470.2.2.2 = 0 then (if (bt470.1.length : Int) = (l0_0.length : Int) then (if bt470.2.1 = true then (gafferlaw02_DiskSafe.j0 k l2 true l0_0 a0_1 a0_2 bt470.1 bt470.2.1 bt470.2.2.1) else (if bt470.2.2.1 = (-1) then ((disk_Check.f k bt470.1 bt470.2.1 bt470.2.2.1).bind fun t478 => (gafferlaw02_DiskSafe.j0 k l2 (t478 != 0) l0_0 a0_1 a0_2 bt470.1 bt470.2.1 bt470.2.2.1)) else (gafferlaw02_DiskSafe.j0 k l2 true l0_0 a0_1 a0_2 bt470.1 bt470.2.1 bt470.2.2.1))) else (gafferlaw02_DiskSafe.j0 k l2 true l0_0 a0_1 a0_2 bt470.1 bt470.2.1 bt470.2.2.1)) else (if (bt470.1.length : Int) = 0 then ((disk_Check.f k l0_0 a0_1 a0_2).bind fun t477 => (some (t477 == bt470.2.2.2))) else (some false)))) else (some false))) = some r := h
 clear h
 replace H := Option.bind_eq_some_iff.mp H
 obtain ⟨t469, A40, H⟩ := H
 replace H : (if t469 = true then ((disk_Crash.f k l0_0 a0_1 a0_2 l1).bind fun bt470 => (if bt470.2.2.2 = 0 then (if (bt470.1.length : Int) = (l0_0.length : Int) then (if bt470.2.1 = true then (gafferlaw02_DiskSafe.j0 k l2 true l0_0 a0_1 a0_2 bt470.1 bt470.2.1 bt470.2.2.1) else (if bt470.2.2.1 = (-1) then ((disk_Check.f k bt470.1 bt470.2.1 bt470.2.2.1).bind fun t478 => (gafferlaw02_DiskSafe.j0 k l2 (t478 != 0) l0_0 a0_1 a0_2 bt470.1 bt470.2.1 bt470.2.2.1)) else (gafferlaw02_DiskSafe.j0 k l2 true l0_0 a0_1 a0_2 bt470.1 bt470.2.1 bt470.2.2.1))) else (gafferlaw02_DiskSafe.j0 k l2 true l0_0 a0_1 a0_2 bt470.1 bt470.2.1 bt470.2.2.1)) else (if (bt470.1.length : Int) = 0 then ((disk_Check.f k l0_0 a0_1 a0_2).bind fun t477 => (some (t477 == bt470.2.2.2))) else (some false)))) else (some false)) = some r := H
 have A4 := Aside0.mk A40
 clear A40
 by_cases c5 : t469 = true
 ·subst c5
  have H1 : ((disk_Crash.f k l0_0 a0_1 a0_2 l1).bind fun bt470 => (if bt470.2.2.2 = 0 then (if (bt470.1.length : Int) = (l0_0.length : Int) then (if bt470.2.1 = true then (gafferlaw02_DiskSafe.j0 k l2 true l0_0 a0_1 a0_2 bt470.1 bt470.2.1 bt470.2.2.1) else (if bt470.2.2.1 = (-1) then ((disk_Check.f k bt470.1 bt470.2.1 bt470.2.2.1).bind fun t478 => (gafferlaw02_DiskSafe.j0 k l2 (t478 != 0) l0_0 a0_1 a0_2 bt470.1 bt470.2.1 bt470.2.2.1)) else (gafferlaw02_DiskSafe.j0 k l2 true l0_0 a0_1 a0_2 bt470.1 bt470.2.1 bt470.2.2.1))) else (gafferlaw02_DiskSafe.j0 k l2 true l0_0 a0_1 a0_2 bt470.1 bt470.2.1 bt470.2.2.1)) else (if (bt470.1.length : Int) = 0 then ((disk_Check.f k l0_0 a0_1 a0_2).bind fun t477 => (some (t477 == bt470.2.2.2))) else (some false)))) = some r := by rw [if_pos rfl] at H; exact H
  clear H
  have H := H1
  clear H1
  replace H := Option.bind_eq_some_iff.mp H
  obtain ⟨⟨t470, t473, t474, t475⟩, A60, H⟩ := H
  replace H : (if t475 = 0 then (if (t470.length : Int) = (l0_0.length : Int) then (if t473 = true then (gafferlaw02_DiskSafe.j0 k l2 true l0_0 a0_1 a0_2 t470 t473 t474) else (if t474 = (-1) then ((disk_Check.f k t470 t473 t474).bind fun t478 => (gafferlaw02_DiskSafe.j0 k l2 (t478 != 0) l0_0 a0_1 a0_2 t470 t473 t474)) else (gafferlaw02_DiskSafe.j0 k l2 true l0_0 a0_1 a0_2 t470 t473 t474))) else (gafferlaw02_DiskSafe.j0 k l2 true l0_0 a0_1 a0_2 t470 t473 t474)) else (if (t470.length : Int) = 0 then ((disk_Check.f k l0_0 a0_1 a0_2).bind fun t477 => (some (t477 == t475))) else (some false))) = some r := H
  have A6 := Aside0.mk A60
  clear A60
  by_cases c7 : t475 = 0
  ·rw [if_pos c7] at H
   have c7b0 : (t475 == 0) = true := beq_iff_eq.mpr c7
   have c7b1 : (t475 != 0) = false := bne_eq_false_iff_eq.mpr c7
   clear c7
   have HC8 := Aside0.mk H
   clear H
   go_enter Try.func4, Try.ntmps4
   go_upto_region 6 with (first | ((with_reducible refine gate_dst (N := 3) rfl ?_); (try (refine gate_guard (by rfl) ?_; dsimp only)); refine box_event ?hg (N := 3) ?hd (cs := #[.slice A0_0 l0_0.length c0_0, .bool a0_1, .int .i64 a0_2]) (t := 24) ?hr ?_; (case hd => rfl); (case hg => rfl); (case hr => first | (go_simp; done) | (go_simp; rfl)); intro gb468 hg w9 hbox hb; have BK468 := Aside0.mk (hbox); have GW468 := Aside0.mk (bs_0 hg HB); have GE468 := Aside0.mk (bs_0 hg HB); replace HB := Aside0.mk (below_step (bl_ HB) hb); clear hb hbox hg) | (go_at_call 14; (with_reducible refine (gafferlaw02_lives.calls k  true _ A4.out).mono ?_); rintro e w10 ⟨rfl, hb⟩; replace BK468 := Aside0.mk (bb_ BK468 hb); replace HB := Aside0.mk (below_step (bl_1 HB GE468) hb); (try clear hb); (try clear hb2); (try clear hk); (try clear hi); obtain ⟨hcz11_0, hcz11_1, hcz11_2, hfz11_0, hfz11_1, hfz11_2⟩ := c3_ BK468) | (go_at_call 12; (with_reducible refine (disk_Crash.calls k _ _ l0_0 a0_1 a0_2 _ _ l1 t470 t473 t474 t475 _ ?side1 ?side2 ?side3 ?side4 A6.out).mono ?_); (case side1 => repeat (first | exact (Kd.C_below HR0_0.out HB.out) | (with_reducible refine Kd.C_alloc ?_ _) | (with_reducible refine Kd.C_drewN ?_ _) | (with_reducible refine Kd.C_drew ?_))); (case side2 => exact HC0_0.out); (case side3 => repeat (first | exact (Kd.C_below HR1.out HB.out) | (with_reducible refine Kd.C_alloc ?_ _) | (with_reducible refine Kd.C_drewN ?_ _) | (with_reducible refine Kd.C_drew ?_))); (case side4 => exact HC1.out); rintro e w12 ⟨v471, rfl, ho0, hb⟩; have HO472 := Aside0.mk (Kd.R_lower ho0 (below_size (bl_1 HB GE468))); replace BK468 := Aside0.mk (bb_ BK468 hb); replace HB := Aside0.mk (below_step (bl_1 HB GE468) hb); (try clear hb); (try clear hb2); (try clear hk); (try clear hi); (try clear ho0)) | ((with_reducible refine gate_dst (N := 7) rfl ?_); (try (refine gate_guard (by rfl) ?_; dsimp only)); refine box_event ?hg (N := 7) ?hd (cs := #[.slice none 0 0, .bool false, .int .i64 0]) (t := 24) ?hr ?_; (case hd => rfl); (case hg => rfl); (case hr => first | (go_simp; done) | (go_simp; rfl)); intro gb476 hg w13 hbox hb; replace HO472 := Aside0.mk (Kd.R_below (by (with_reducible repeat (first | apply Kd.R_alloc | apply Kd.R_drewN | apply Kd.R_drew)); exact HO472.out) hb); have BK476 := Aside0.mk (hbox); have GW476 := Aside0.mk (bs_1 hg HB GE468); have GE476 := Aside0.mk (bs_1 hg HB GE468); replace HB := Aside0.mk (below_step (bl_1 HB GE468) hb); have NB468_476 := Aside0.mk (nb_ hg BK468); have NB476_468 := Aside0.mk (nc_ hg BK468); replace BK468 := Aside0.mk (bb_ BK468 hb); clear hb hbox hg; obtain ⟨Ao14, co14, eo14⟩ := Kd.R_slice HO472.out; subst eo14; have hnb15 := NB476_468.out; have hnc15 := NB468_476.out; obtain ⟨hcz16_0, hcz16_1, hcz16_2, hfz16_0, hfz16_1, hfz16_2⟩ := c3_ BK476))
   repeat (go_quiet (first | ((with_reducible refine gate_dst (N := 3) rfl ?_); (try (refine gate_guard (by rfl) ?_; dsimp only)); refine box_event ?hg (N := 3) ?hd (cs := #[.slice A0_0 l0_0.length c0_0, .bool a0_1, .int .i64 a0_2]) (t := 24) ?hr ?_; (case hd => rfl); (case hg => rfl); (case hr => first | (go_simp; done) | (go_simp; rfl)); intro gb468 hg w9 hbox hb; have BK468 := Aside0.mk (hbox); have GW468 := Aside0.mk (bs_0 hg HB); have GE468 := Aside0.mk (bs_0 hg HB); replace HB := Aside0.mk (below_step (bl_ HB) hb); clear hb hbox hg) | (go_at_call 14; (with_reducible refine (gafferlaw02_lives.calls k  true _ A4.out).mono ?_); rintro e w10 ⟨rfl, hb⟩; replace BK468 := Aside0.mk (bb_ BK468 hb); replace HB := Aside0.mk (below_step (bl_1 HB GE468) hb); (try clear hb); (try clear hb2); (try clear hk); (try clear hi); obtain ⟨hcz11_0, hcz11_1, hcz11_2, hfz11_0, hfz11_1, hfz11_2⟩ := c3_ BK468) | (go_at_call 12; (with_reducible refine (disk_Crash.calls k _ _ l0_0 a0_1 a0_2 _ _ l1 t470 t473 t474 t475 _ ?side1 ?side2 ?side3 ?side4 A6.out).mono ?_); (case side1 => repeat (first | exact (Kd.C_below HR0_0.out HB.out) | (with_reducible refine Kd.C_alloc ?_ _) | (with_reducible refine Kd.C_drewN ?_ _) | (with_reducible refine Kd.C_drew ?_))); (case side2 => exact HC0_0.out); (case side3 => repeat (first | exact (Kd.C_below HR1.out HB.out) | (with_reducible refine Kd.C_alloc ?_ _) | (with_reducible refine Kd.C_drewN ?_ _) | (with_reducible refine Kd.C_drew ?_))); (case side4 => exact HC1.out); rintro e w12 ⟨v471, rfl, ho0, hb⟩; have HO472 := Aside0.mk (Kd.R_lower ho0 (below_size (bl_1 HB GE468))); replace BK468 := Aside0.mk (bb_ BK468 hb); replace HB := Aside0.mk (below_step (bl_1 HB GE468) hb); (try clear hb); (try clear hb2); (try clear hk); (try clear hi); (try clear ho0)) | ((with_reducible refine gate_dst (N := 7) rfl ?_); (try (refine gate_guard (by rfl) ?_; dsimp only)); refine box_event ?hg (N := 7) ?hd (cs := #[.slice none 0 0, .bool false, .int .i64 0]) (t := 24) ?hr ?_; (case hd => rfl); (case hg => rfl); (case hr => first | (go_simp; done) | (go_simp; rfl)); intro gb476 hg w13 hbox hb; replace HO472 := Aside0.mk (Kd.R_below (by (with_reducible repeat (first | apply Kd.R_alloc | apply Kd.R_drewN | apply Kd.R_drew)); exact HO472.out) hb); have BK476 := Aside0.mk (hbox); have GW476 := Aside0.mk (bs_1 hg HB GE468); have GE476 := Aside0.mk (bs_1 hg HB GE468); replace HB := Aside0.mk (below_step (bl_1 HB GE468) hb); have NB468_476 := Aside0.mk (nb_ hg BK468); have NB476_468 := Aside0.mk (nc_ hg BK468); replace BK468 := Aside0.mk (bb_ BK468 hb); clear hb hbox hg; obtain ⟨Ao14, co14, eo14⟩ := Kd.R_slice HO472.out; subst eo14; have hnb15 := NB476_468.out; have hnc15 := NB468_476.out; obtain ⟨hcz16_0, hcz16_1, hcz16_2, hfz16_0, hfz16_1, hfz16_2⟩ := c3_ BK476)); go_upto_region 6 with (first | ((with_reducible refine gate_dst (N := 3) rfl ?_); (try (refine gate_guard (by rfl) ?_; dsimp only)); refine box_event ?hg (N := 3) ?hd (cs := #[.slice A0_0 l0_0.length c0_0, .bool a0_1, .int .i64 a0_2]) (t := 24) ?hr ?_; (case hd => rfl); (case hg => rfl); (case hr => first | (go_simp; done) | (go_simp; rfl)); intro gb468 hg w9 hbox hb; have BK468 := Aside0.mk (hbox); have GW468 := Aside0.mk (bs_0 hg HB); have GE468 := Aside0.mk (bs_0 hg HB); replace HB := Aside0.mk (below_step (bl_ HB) hb); clear hb hbox hg) | (go_at_call 14; (with_reducible refine (gafferlaw02_lives.calls k  true _ A4.out).mono ?_); rintro e w10 ⟨rfl, hb⟩; replace BK468 := Aside0.mk (bb_ BK468 hb); replace HB := Aside0.mk (below_step (bl_1 HB GE468) hb); (try clear hb); (try clear hb2); (try clear hk); (try clear hi); obtain ⟨hcz11_0, hcz11_1, hcz11_2, hfz11_0, hfz11_1, hfz11_2⟩ := c3_ BK468) | (go_at_call 12; (with_reducible refine (disk_Crash.calls k _ _ l0_0 a0_1 a0_2 _ _ l1 t470 t473 t474 t475 _ ?side1 ?side2 ?side3 ?side4 A6.out).mono ?_); (case side1 => repeat (first | exact (Kd.C_below HR0_0.out HB.out) | (with_reducible refine Kd.C_alloc ?_ _) | (with_reducible refine Kd.C_drewN ?_ _) | (with_reducible refine Kd.C_drew ?_))); (case side2 => exact HC0_0.out); (case side3 => repeat (first | exact (Kd.C_below HR1.out HB.out) | (with_reducible refine Kd.C_alloc ?_ _) | (with_reducible refine Kd.C_drewN ?_ _) | (with_reducible refine Kd.C_drew ?_))); (case side4 => exact HC1.out); rintro e w12 ⟨v471, rfl, ho0, hb⟩; have HO472 := Aside0.mk (Kd.R_lower ho0 (below_size (bl_1 HB GE468))); replace BK468 := Aside0.mk (bb_ BK468 hb); replace HB := Aside0.mk (below_step (bl_1 HB GE468) hb); (try clear hb); (try clear hb2); (try clear hk); (try clear hi); (try clear ho0)) | ((with_reducible refine gate_dst (N := 7) rfl ?_); (try (refine gate_guard (by rfl) ?_; dsimp only)); refine box_event ?hg (N := 7) ?hd (cs := #[.slice none 0 0, .bool false, .int .i64 0]) (t := 24) ?hr ?_; (case hd => rfl); (case hg => rfl); (case hr => first | (go_simp; done) | (go_simp; rfl)); intro gb476 hg w13 hbox hb; replace HO472 := Aside0.mk (Kd.R_below (by (with_reducible repeat (first | apply Kd.R_alloc | apply Kd.R_drewN | apply Kd.R_drew)); exact HO472.out) hb); have BK476 := Aside0.mk (hbox); have GW476 := Aside0.mk (bs_1 hg HB GE468); have GE476 := Aside0.mk (bs_1 hg HB GE468); replace HB := Aside0.mk (below_step (bl_1 HB GE468) hb); have NB468_476 := Aside0.mk (nb_ hg BK468); have NB476_468 := Aside0.mk (nc_ hg BK468); replace BK468 := Aside0.mk (bb_ BK468 hb); clear hb hbox hg; obtain ⟨Ao14, co14, eo14⟩ := Kd.R_slice HO472.out; subst eo14; have hnb15 := NB476_468.out; have hnc15 := NB468_476.out; obtain ⟨hcz16_0, hcz16_1, hcz16_2, hfz16_0, hfz16_1, hfz16_2⟩ := c3_ BK476)))
   (try simp only [Act.put, List.setIfInBounds_toArray, List.set_cons_zero, List.set_cons_succ])
   go_cut [54] (fun v54 wc => ∃ (kq : Nat) (x54_7 : Bool), v54 = .bool x54_7 ∧ Aside0 (gafferlaw02_DiskSafe.j0 kq l2 x54_7 l0_0 a0_1 a0_2 t470 t473 t474 = some r) ∧ Aside0 (kq ≤ k) ∧ Aside0 (Kd.R k35 35 wc w.heap.size (fun _ => True) (.slice Ao14 t470.length co14) t470) ∧ Aside0 (wc.heap[gb468]? = some (.cells #[(.slice A0_0 l0_0.length c0_0), .bool a0_1, .int .i64 a0_2] 24 (0, 0))) ∧ Aside0 (wc.heap[gb476]? = some (.cells #[(.slice Ao14 t470.length co14), .bool t473, .int .i64 t474] 24 (0, 0))) ∧ Aside0 (Below w.heap.size w wc))
   case first =>
    have H := HC8.out
    clear HC8
    by_cases c17 : (t470.length : Int) = (l0_0.length : Int)
    ·rw [if_pos c17] at H
     have c17b0 : ((t470.length : Int) == (l0_0.length : Int)) = true := beq_iff_eq.mpr c17
     have c17b1 : ((t470.length : Int) != (l0_0.length : Int)) = false := bne_eq_false_iff_eq.mpr c17
     have c17b2 : (t470.length == l0_0.length) = true := by first | simpa using c17 | (simp at c17 ⊢; omega)
     clear c17
     (first | rw [c17b0] | (simp only [i64_w, i32_w]; rw [c17b0]) | skip)
     by_cases c18 : t473 = true
     ·subst c18
      have H1 : (gafferlaw02_DiskSafe.j0 k l2 true l0_0 a0_1 a0_2 t470 true t474) = some r := by rw [if_pos rfl] at H; exact H
      clear H
      have H := H1
      clear H1
      have H' := Aside0.mk H
      clear H
      have hnb19 := NB476_468.out
      have hnc19 := NB468_476.out
      obtain ⟨hcz20_0, hcz20_1, hcz20_2, hfz20_0, hfz20_1, hfz20_2⟩ := c3_ BK476
      obtain ⟨hcz21_0, hcz21_1, hcz21_2, hfz21_0, hfz21_1, hfz21_2⟩ := c3_ BK468
      go_wp2
      repeat (go_quiet (fail); try go_wp2)
      go_meet
      case rel => exact ⟨_, (true), (by first | rfl | (simp; done) | (simp [*]; done)), H', ⟨by first | omega | exact Nat.le_refl _⟩, ⟨by (with_reducible repeat (first | apply Kd.R_alloc | apply Kd.R_drewN | apply Kd.R_drew)); exact Kd.R_mono (Kd.R_far (p := ⟨gb476, 2, none⟩) (Kd.R_far (p := ⟨gb476, 1, none⟩) (Kd.R_far (p := ⟨gb476, 0, none⟩) (Kd.R_types HO472.out BK476.out (by decide)) (fun _ hk => hk.2) (.slice Ao14 t470.length co14)) (fun _ hk => hk.2) (.bool true)) (fun _ hk => hk.2) (.int .i64 t474)) (fun _ hk => trivial)⟩, ⟨by (with_reducible repeat (first | refine blk_drewN ?_ _ | refine blk_drew ?_ | refine blk_alloc ?_ _)); refine blk_far ?_ NB468_476.out _; (with_reducible repeat (first | refine blk_drewN ?_ _ | refine blk_drew ?_ | refine blk_alloc ?_ _)); refine blk_far ?_ NB468_476.out _; (with_reducible repeat (first | refine blk_drewN ?_ _ | refine blk_drew ?_ | refine blk_alloc ?_ _)); refine blk_far ?_ NB468_476.out _; (with_reducible repeat (first | refine blk_drewN ?_ _ | refine blk_drew ?_ | refine blk_alloc ?_ _)); exact BK468.out⟩, ⟨by (with_reducible repeat (first | refine blk_drewN ?_ _ | refine blk_drew ?_ | refine blk_alloc ?_ _)); refine blk_put (cs := #[.slice Ao14 t470.length co14, .bool true, .int .i64 0]) ?_ 2 _ rfl; (with_reducible repeat (first | refine blk_drewN ?_ _ | refine blk_drew ?_ | refine blk_alloc ?_ _)); refine blk_put (cs := #[.slice Ao14 t470.length co14, .bool false, .int .i64 0]) ?_ 1 _ rfl; (with_reducible repeat (first | refine blk_drewN ?_ _ | refine blk_drew ?_ | refine blk_alloc ?_ _)); refine blk_put (cs := #[.slice none 0 0, .bool false, .int .i64 0]) ?_ 0 _ rfl; (with_reducible repeat (first | refine blk_drewN ?_ _ | refine blk_drew ?_ | refine blk_alloc ?_ _)); exact BK476.out⟩, ⟨bl_2 HB GE468 GE476⟩⟩
     ·replace c18 := Bool.eq_false_iff.mpr c18
      subst c18
      have H1 : (if t474 = (-1) then ((disk_Check.f k t470 false t474).bind fun t478 => (gafferlaw02_DiskSafe.j0 k l2 (t478 != 0) l0_0 a0_1 a0_2 t470 false t474)) else (gafferlaw02_DiskSafe.j0 k l2 true l0_0 a0_1 a0_2 t470 false t474)) = some r := by rw [if_neg (show ¬ (false = true) by decide)] at H; exact H
      clear H
      have H := H1
      clear H1
      by_cases c22 : t474 = (-1)
      ·rw [if_pos c22] at H
       have c22b0 : (t474 == (-1)) = true := beq_iff_eq.mpr c22
       have c22b1 : (t474 != (-1)) = false := bne_eq_false_iff_eq.mpr c22
       clear c22
       replace H := Option.bind_eq_some_iff.mp H
       obtain ⟨t478, A230, H⟩ := H
       replace H : (gafferlaw02_DiskSafe.j0 k l2 (t478 != 0) l0_0 a0_1 a0_2 t470 false t474) = some r := H
       have A23 := Aside0.mk A230
       clear A230
       have H' := Aside0.mk H
       clear H
       have hnb24 := NB476_468.out
       have hnc24 := NB468_476.out
       obtain ⟨hcz25_0, hcz25_1, hcz25_2, hfz25_0, hfz25_1, hfz25_2⟩ := c3_ BK476
       obtain ⟨hcz26_0, hcz26_1, hcz26_2, hfz26_0, hfz26_1, hfz26_2⟩ := c3_ BK468
       go_wp2_with (first | (go_at_call 16; (with_reducible refine (disk_Check.calls k _ _ t470 false t474 t478 _ ?side1 ?side2 A23.out).mono ?_); (case side1 => refine (Kd.R_reads' (e := 35) (base := w.heap.size) (ok := fun k_ => True) (n := t470.length) (c := co14) ?_).2.2; exact (by (with_reducible repeat (first | apply Kd.R_alloc | apply Kd.R_drewN | apply Kd.R_drew)); exact (Kd.R_mono (Kd.R_far (p := ⟨gb476, 2, none⟩) (Kd.R_far (p := ⟨gb476, 1, none⟩) (Kd.R_far (p := ⟨gb476, 0, none⟩) (Kd.R_types HO472.out BK476.out (by decide)) (fun _ hk => hk.2) (.slice Ao14 t470.length co14)) (fun _ hk => hk.2) (.bool false)) (fun _ hk => hk.2) (.int .i64 t474)) (fun _ h_ => h_.1)))); (case side2 => exact (Kd.R_reads' HO472.out).2.1); rintro e w27 ⟨rfl, hb⟩; replace HO472 := Aside0.mk (Kd.R_below (by (with_reducible repeat (first | apply Kd.R_alloc | apply Kd.R_drewN | apply Kd.R_drew)); exact (Kd.R_mono (Kd.R_far (p := ⟨gb476, 2, none⟩) (Kd.R_far (p := ⟨gb476, 1, none⟩) (Kd.R_far (p := ⟨gb476, 0, none⟩) (Kd.R_types HO472.out BK476.out (by decide)) (fun _ hk => hk.2) (.slice Ao14 t470.length co14)) (fun _ hk => hk.2) (.bool false)) (fun _ hk => hk.2) (.int .i64 t474)) (fun _ h_ => h_.1))) hb); replace BK468 := Aside0.mk (blk_below (g := gb468) (o := .cells #[.slice A0_0 l0_0.length c0_0, .bool a0_1, .int .i64 a0_2] 24 (0, 0)) (bp_1 BK468 NB468_476) hb); replace BK476 := Aside0.mk (blk_below (g := gb476) (o := .cells #[.slice Ao14 t470.length co14, .bool false, .int .i64 t474] 24 (0, 0)) (bp_0 BK476) hb); replace HB := Aside0.mk (below_step (bl_2 HB GE468 GE476) hb); (try clear hb); (try clear hb2); (try clear hk); (try clear hi)))
       repeat (go_quiet (first | (go_at_call 16; (with_reducible refine (disk_Check.calls k _ _ t470 false t474 t478 _ ?side1 ?side2 A23.out).mono ?_); (case side1 => refine (Kd.R_reads' (e := 35) (base := w.heap.size) (ok := fun k_ => True) (n := t470.length) (c := co14) ?_).2.2; exact (by (with_reducible repeat (first | apply Kd.R_alloc | apply Kd.R_drewN | apply Kd.R_drew)); exact (Kd.R_mono (Kd.R_far (p := ⟨gb476, 2, none⟩) (Kd.R_far (p := ⟨gb476, 1, none⟩) (Kd.R_far (p := ⟨gb476, 0, none⟩) (Kd.R_types HO472.out BK476.out (by decide)) (fun _ hk => hk.2) (.slice Ao14 t470.length co14)) (fun _ hk => hk.2) (.bool false)) (fun _ hk => hk.2) (.int .i64 t474)) (fun _ h_ => h_.1)))); (case side2 => exact (Kd.R_reads' HO472.out).2.1); rintro e w27 ⟨rfl, hb⟩; replace HO472 := Aside0.mk (Kd.R_below (by (with_reducible repeat (first | apply Kd.R_alloc | apply Kd.R_drewN | apply Kd.R_drew)); exact (Kd.R_mono (Kd.R_far (p := ⟨gb476, 2, none⟩) (Kd.R_far (p := ⟨gb476, 1, none⟩) (Kd.R_far (p := ⟨gb476, 0, none⟩) (Kd.R_types HO472.out BK476.out (by decide)) (fun _ hk => hk.2) (.slice Ao14 t470.length co14)) (fun _ hk => hk.2) (.bool false)) (fun _ hk => hk.2) (.int .i64 t474)) (fun _ h_ => h_.1))) hb); replace BK468 := Aside0.mk (blk_below (g := gb468) (o := .cells #[.slice A0_0 l0_0.length c0_0, .bool a0_1, .int .i64 a0_2] 24 (0, 0)) (bp_1 BK468 NB468_476) hb); replace BK476 := Aside0.mk (blk_below (g := gb476) (o := .cells #[.slice Ao14 t470.length co14, .bool false, .int .i64 t474] 24 (0, 0)) (bp_0 BK476) hb); replace HB := Aside0.mk (below_step (bl_2 HB GE468 GE476) hb); (try clear hb); (try clear hb2); (try clear hk); (try clear hi))); try go_wp2_with (first | (go_at_call 16; (with_reducible refine (disk_Check.calls k _ _ t470 false t474 t478 _ ?side1 ?side2 A23.out).mono ?_); (case side1 => refine (Kd.R_reads' (e := 35) (base := w.heap.size) (ok := fun k_ => True) (n := t470.length) (c := co14) ?_).2.2; exact (by (with_reducible repeat (first | apply Kd.R_alloc | apply Kd.R_drewN | apply Kd.R_drew)); exact (Kd.R_mono (Kd.R_far (p := ⟨gb476, 2, none⟩) (Kd.R_far (p := ⟨gb476, 1, none⟩) (Kd.R_far (p := ⟨gb476, 0, none⟩) (Kd.R_types HO472.out BK476.out (by decide)) (fun _ hk => hk.2) (.slice Ao14 t470.length co14)) (fun _ hk => hk.2) (.bool false)) (fun _ hk => hk.2) (.int .i64 t474)) (fun _ h_ => h_.1)))); (case side2 => exact (Kd.R_reads' HO472.out).2.1); rintro e w27 ⟨rfl, hb⟩; replace HO472 := Aside0.mk (Kd.R_below (by (with_reducible repeat (first | apply Kd.R_alloc | apply Kd.R_drewN | apply Kd.R_drew)); exact (Kd.R_mono (Kd.R_far (p := ⟨gb476, 2, none⟩) (Kd.R_far (p := ⟨gb476, 1, none⟩) (Kd.R_far (p := ⟨gb476, 0, none⟩) (Kd.R_types HO472.out BK476.out (by decide)) (fun _ hk => hk.2) (.slice Ao14 t470.length co14)) (fun _ hk => hk.2) (.bool false)) (fun _ hk => hk.2) (.int .i64 t474)) (fun _ h_ => h_.1))) hb); replace BK468 := Aside0.mk (blk_below (g := gb468) (o := .cells #[.slice A0_0 l0_0.length c0_0, .bool a0_1, .int .i64 a0_2] 24 (0, 0)) (bp_1 BK468 NB468_476) hb); replace BK476 := Aside0.mk (blk_below (g := gb476) (o := .cells #[.slice Ao14 t470.length co14, .bool false, .int .i64 t474] 24 (0, 0)) (bp_0 BK476) hb); replace HB := Aside0.mk (below_step (bl_2 HB GE468 GE476) hb); (try clear hb); (try clear hb2); (try clear hk); (try clear hi))))
       go_meet
       case rel => exact ⟨_, ((t478 != 0)), (by first | rfl | (simp; done) | (simp [*]; done)), H', ⟨by first | omega | exact Nat.le_refl _⟩, ⟨by (with_reducible repeat (first | apply Kd.R_alloc | apply Kd.R_drewN | apply Kd.R_drew)); exact HO472.out⟩, ⟨bk_ BK468⟩, ⟨bk_ BK476⟩, ⟨bl_2 HB GE468 GE476⟩⟩
      ·rw [if_neg c22] at H
       have c22b0 : (t474 == (-1)) = false := beq_eq_false_iff_ne.mpr c22
       have c22b1 : (t474 != (-1)) = true := bne_iff_ne.mpr c22
       have H' := Aside0.mk H
       clear H
       have hnb28 := NB476_468.out
       have hnc28 := NB468_476.out
       obtain ⟨hcz29_0, hcz29_1, hcz29_2, hfz29_0, hfz29_1, hfz29_2⟩ := c3_ BK476
       obtain ⟨hcz30_0, hcz30_1, hcz30_2, hfz30_0, hfz30_1, hfz30_2⟩ := c3_ BK468
       go_wp2
       repeat (go_quiet (fail); try go_wp2)
       go_meet
       case rel => exact ⟨_, (true), (by first | rfl | (simp; done) | (simp [*]; done)), H', ⟨by first | omega | exact Nat.le_refl _⟩, ⟨by (with_reducible repeat (first | apply Kd.R_alloc | apply Kd.R_drewN | apply Kd.R_drew)); exact Kd.R_mono (Kd.R_far (p := ⟨gb476, 2, none⟩) (Kd.R_far (p := ⟨gb476, 1, none⟩) (Kd.R_far (p := ⟨gb476, 0, none⟩) (Kd.R_types HO472.out BK476.out (by decide)) (fun _ hk => hk.2) (.slice Ao14 t470.length co14)) (fun _ hk => hk.2) (.bool false)) (fun _ hk => hk.2) (.int .i64 t474)) (fun _ hk => trivial)⟩, ⟨by (with_reducible repeat (first | refine blk_drewN ?_ _ | refine blk_drew ?_ | refine blk_alloc ?_ _)); refine blk_far ?_ NB468_476.out _; (with_reducible repeat (first | refine blk_drewN ?_ _ | refine blk_drew ?_ | refine blk_alloc ?_ _)); refine blk_far ?_ NB468_476.out _; (with_reducible repeat (first | refine blk_drewN ?_ _ | refine blk_drew ?_ | refine blk_alloc ?_ _)); refine blk_far ?_ NB468_476.out _; (with_reducible repeat (first | refine blk_drewN ?_ _ | refine blk_drew ?_ | refine blk_alloc ?_ _)); exact BK468.out⟩, ⟨by (with_reducible repeat (first | refine blk_drewN ?_ _ | refine blk_drew ?_ | refine blk_alloc ?_ _)); refine blk_put (cs := #[.slice Ao14 t470.length co14, .bool false, .int .i64 0]) ?_ 2 _ rfl; (with_reducible repeat (first | refine blk_drewN ?_ _ | refine blk_drew ?_ | refine blk_alloc ?_ _)); refine blk_put (cs := #[.slice Ao14 t470.length co14, .bool false, .int .i64 0]) ?_ 1 _ rfl; (with_reducible repeat (first | refine blk_drewN ?_ _ | refine blk_drew ?_ | refine blk_alloc ?_ _)); refine blk_put (cs := #[.slice none 0 0, .bool false, .int .i64 0]) ?_ 0 _ rfl; (with_reducible repeat (first | refine blk_drewN ?_ _ | refine blk_drew ?_ | refine blk_alloc ?_ _)); exact BK476.out⟩, ⟨bl_2 HB GE468 GE476⟩⟩
    ·rw [if_neg c17] at H
     have c17b0 : ((t470.length : Int) == (l0_0.length : Int)) = false := beq_eq_false_iff_ne.mpr c17
     have c17b1 : ((t470.length : Int) != (l0_0.length : Int)) = true := bne_iff_ne.mpr c17
     have c17b2 : (t470.length == l0_0.length) = false := by first | simpa using c17 | (simp at c17 ⊢; omega)
     (first | rw [c17b0] | (simp only [i64_w, i32_w]; rw [c17b0]) | skip)
     have H' := Aside0.mk H
     clear H
     have hnb31 := NB476_468.out
     have hnc31 := NB468_476.out
     obtain ⟨hcz32_0, hcz32_1, hcz32_2, hfz32_0, hfz32_1, hfz32_2⟩ := c3_ BK476
     obtain ⟨hcz33_0, hcz33_1, hcz33_2, hfz33_0, hfz33_1, hfz33_2⟩ := c3_ BK468
     go_wp2
     repeat (go_quiet (fail); try go_wp2)
     go_meet
     case rel => exact ⟨_, (true), (by first | rfl | (simp; done) | (simp [*]; done)), H', ⟨by first | omega | exact Nat.le_refl _⟩, ⟨by (with_reducible repeat (first | apply Kd.R_alloc | apply Kd.R_drewN | apply Kd.R_drew)); exact Kd.R_mono (Kd.R_far (p := ⟨gb476, 2, none⟩) (Kd.R_far (p := ⟨gb476, 1, none⟩) (Kd.R_far (p := ⟨gb476, 0, none⟩) (Kd.R_types HO472.out BK476.out (by decide)) (fun _ hk => hk.2) (.slice Ao14 t470.length co14)) (fun _ hk => hk.2) (.bool t473)) (fun _ hk => hk.2) (.int .i64 t474)) (fun _ hk => trivial)⟩, ⟨by (with_reducible repeat (first | refine blk_drewN ?_ _ | refine blk_drew ?_ | refine blk_alloc ?_ _)); refine blk_far ?_ NB468_476.out _; (with_reducible repeat (first | refine blk_drewN ?_ _ | refine blk_drew ?_ | refine blk_alloc ?_ _)); refine blk_far ?_ NB468_476.out _; (with_reducible repeat (first | refine blk_drewN ?_ _ | refine blk_drew ?_ | refine blk_alloc ?_ _)); refine blk_far ?_ NB468_476.out _; (with_reducible repeat (first | refine blk_drewN ?_ _ | refine blk_drew ?_ | refine blk_alloc ?_ _)); exact BK468.out⟩, ⟨by (with_reducible repeat (first | refine blk_drewN ?_ _ | refine blk_drew ?_ | refine blk_alloc ?_ _)); refine blk_put (cs := #[.slice Ao14 t470.length co14, .bool t473, .int .i64 0]) ?_ 2 _ rfl; (with_reducible repeat (first | refine blk_drewN ?_ _ | refine blk_drew ?_ | refine blk_alloc ?_ _)); refine blk_put (cs := #[.slice Ao14 t470.length co14, .bool false, .int .i64 0]) ?_ 1 _ rfl; (with_reducible repeat (first | refine blk_drewN ?_ _ | refine blk_drew ?_ | refine blk_alloc ?_ _)); refine blk_put (cs := #[.slice none 0 0, .bool false, .int .i64 0]) ?_ 0 _ rfl; (with_reducible repeat (first | refine blk_drewN ?_ _ | refine blk_drew ?_ | refine blk_alloc ?_ _)); exact BK476.out⟩, ⟨bl_2 HB GE468 GE476⟩⟩
   case rest =>
    clear HC8
    try clear c1
    try clear c2
    try clear p2
    try clear c3
    try clear c4
    try clear c5
    try clear c7
    try clear c7b0
    try clear c7b1
    try clear c15
    try clear c17
    try clear c17b0
    try clear c17b1
    try clear c17b2
    try clear c18
    try clear c19
    try clear c22
    try clear c22b0
    try clear c22b1
    try clear c24
    try clear c28
    try clear c31
    try clear hcz11_0
    try clear hcz11_1
    try clear hcz11_2
    try clear hcz16_0
    try clear hcz16_1
    try clear hcz16_2
    try clear hcz20_0
    try clear hcz20_1
    try clear hcz20_2
    try clear hcz21_0
    try clear hcz21_1
    try clear hcz21_2
    try clear hcz25_0
    try clear hcz25_1
    try clear hcz25_2
    try clear hcz26_0
    try clear hcz26_1
    try clear hcz26_2
    try clear hcz29_0
    try clear hcz29_1
    try clear hcz29_2
    try clear hcz30_0
    try clear hcz30_1
    try clear hcz30_2
    try clear hcz32_0
    try clear hcz32_1
    try clear hcz32_2
    try clear hcz33_0
    try clear hcz33_1
    try clear hcz33_2
    try clear hfz11_0
    try clear hfz11_1
    try clear hfz11_2
    try clear hfz16_0
    try clear hfz16_1
    try clear hfz16_2
    try clear hfz20_0
    try clear hfz20_1
    try clear hfz20_2
    try clear hfz21_0
    try clear hfz21_1
    try clear hfz21_2
    try clear hfz25_0
    try clear hfz25_1
    try clear hfz25_2
    try clear hfz26_0
    try clear hfz26_1
    try clear hfz26_2
    try clear hfz29_0
    try clear hfz29_1
    try clear hfz29_2
    try clear hfz30_0
    try clear hfz30_1
    try clear hfz30_2
    try clear hfz32_0
    try clear hfz32_1
    try clear hfz32_2
    try clear hfz33_0
    try clear hfz33_1
    try clear hfz33_2
    obtain ⟨kq, x54_7, rfl, HA, HJ7, HO_477000, BK468, BK476, HB⟩ := hcut
    cases kq with
    | zero => exact absurd HA.out (by simp [gafferlaw02_DiskSafe.j0])
    | succ kj7 =>
     have H := HA.out
     clear HA
     simp only [gafferlaw02_DiskSafe.j0] at H
     by_cases c34 : x54_7 = true
     ·subst c34
      have H1 : (some false) = some r := by rw [if_pos rfl] at H; exact H
      clear H
      have H := H1
      clear H1
      exact absurd (H.trans (congrArg some hr)) (by simp)
     ·replace c34 := Bool.eq_false_iff.mpr c34
      subst c34
      have H1 : (gafferlaw02_DiskSafe.l0 kj7 l2 t470 (t470.length : Int) 0 l0_0 a0_1 a0_2 t470 t473 t474) = some r := by rw [if_neg (show ¬ (false = true) by decide)] at H; exact H
      clear H
      have H := H1
      clear H1
      have H' := Aside0.mk H
      clear H
      have hnb35 := NB476_468.out
      have hnc35 := NB468_476.out
      obtain ⟨hcz36_0, hcz36_1, hcz36_2, hfz36_0, hfz36_1, hfz36_2⟩ := c3_ BK476
      go_wp2
      repeat (go_quiet (fail); try go_wp2)
      go_loopg [58] kj7 (fun kq v58 w' => ∃ (x58_2 : Int), v58 = .int .i64 x58_2 ∧ Aside0 (gafferlaw02_DiskSafe.l0 kq l2 t470 (t470.length : Int) x58_2 l0_0 a0_1 a0_2 t470 t473 t474 = some r) ∧ Aside0 (kq ≤ kj7) ∧ Aside0 (Kd.R k35 35 w' w.heap.size (fun _ => True) (.slice Ao14 t470.length co14) t470) ∧ Aside0 (Kd.R k35 35 w' w.heap.size (fun _ => True) (.slice Ao14 t470.length co14) t470) ∧ Aside0 (w'.heap[gb468]? = some (.cells #[(.slice A0_0 l0_0.length c0_0), .bool a0_1, .int .i64 a0_2] 24 (0, 0))) ∧ Aside0 (w'.heap[gb476]? = some (.cells #[(.slice Ao14 t470.length co14), .bool t473, .int .i64 t474] 24 (0, 0))) ∧ Aside0 (Below w.heap.size w w'))
      case atStart => exact ⟨(0), (by first | rfl | (simp; done) | (simp [*]; done)), H', ⟨Nat.le_refl _⟩, ⟨by (with_reducible repeat (first | apply Kd.R_alloc | apply Kd.R_drewN | apply Kd.R_drew)); exact HO_477000.out⟩, ⟨by (with_reducible repeat (first | apply Kd.R_alloc | apply Kd.R_drewN | apply Kd.R_drew)); exact HO_477000.out⟩, ⟨bk_ BK468⟩, ⟨bk_ BK476⟩, ⟨bl_2 HB GE468 GE476⟩⟩
      case round =>
       clear H'
       try clear c1
       try clear c2
       try clear p2
       try clear c3
       try clear c4
       try clear c5
       try clear c7
       try clear c7b0
       try clear c7b1
       try clear c15
       try clear c17
       try clear c17b0
       try clear c17b1
       try clear c17b2
       try clear c18
       try clear c19
       try clear c22
       try clear c22b0
       try clear c22b1
       try clear c24
       try clear c28
       try clear c31
       try clear c34
       try clear c35
       try clear hcz11_0
       try clear hcz11_1
       try clear hcz11_2
       try clear hcz16_0
       try clear hcz16_1
       try clear hcz16_2
       try clear hcz20_0
       try clear hcz20_1
       try clear hcz20_2
       try clear hcz21_0
       try clear hcz21_1
       try clear hcz21_2
       try clear hcz25_0
       try clear hcz25_1
       try clear hcz25_2
       try clear hcz26_0
       try clear hcz26_1
       try clear hcz26_2
       try clear hcz29_0
       try clear hcz29_1
       try clear hcz29_2
       try clear hcz30_0
       try clear hcz30_1
       try clear hcz30_2
       try clear hcz32_0
       try clear hcz32_1
       try clear hcz32_2
       try clear hcz33_0
       try clear hcz33_1
       try clear hcz33_2
       try clear hcz36_0
       try clear hcz36_1
       try clear hcz36_2
       try clear hfz11_0
       try clear hfz11_1
       try clear hfz11_2
       try clear hfz16_0
       try clear hfz16_1
       try clear hfz16_2
       try clear hfz20_0
       try clear hfz20_1
       try clear hfz20_2
       try clear hfz21_0
       try clear hfz21_1
       try clear hfz21_2
       try clear hfz25_0
       try clear hfz25_1
       try clear hfz25_2
       try clear hfz26_0
       try clear hfz26_1
       try clear hfz26_2
       try clear hfz29_0
       try clear hfz29_1
       try clear hfz29_2
       try clear hfz30_0
       try clear hfz30_1
       try clear hfz30_2
       try clear hfz32_0
       try clear hfz32_1
       try clear hfz32_2
       try clear hfz33_0
       try clear hfz33_1
       try clear hfz33_2
       try clear hfz36_0
       try clear hfz36_1
       try clear hfz36_2
       try clear p2
       obtain ⟨x58_2, rfl, HA, HK2, HO_56, HO_477000, BK468, BK476, HB⟩ := hrel
       cases gk with
       | zero => exact absurd HA.out (by simp [gafferlaw02_DiskSafe.l0])
       | succ k2 =>
        have H := HA.out
        clear HA
        simp only [gafferlaw02_DiskSafe.l0] at H
        by_cases c37 : x58_2 < (t470.length : Int)
        ·rw [if_pos c37] at H
         have c37b0 : decide (x58_2 < (t470.length : Int)) = true := decide_eq_true c37
         clear c37
         by_cases c38 : 0 ≤ x58_2
         ·rw [if_pos c38] at H
          have c38b0 : decide (0 ≤ x58_2) = true := decide_eq_true c38
          clear c38
          by_cases c39 : x58_2 < (t470.length : Int)
          ·rw [if_pos c39] at H
           have c39b0 : decide (x58_2 < (t470.length : Int)) = true := decide_eq_true c39
           clear c39
           by_cases c40 : x58_2 < (l0_0.length : Int)
           ·rw [if_pos c40] at H
            have c40b0 : decide (x58_2 < (l0_0.length : Int)) = true := decide_eq_true c40
            clear c40
            by_cases c41 : ((rd_T35 t470 x58_2).f0).toList = ((rd_T35 l0_0 x58_2).f0).toList
            ·rw [if_pos c41] at H
             have c41b0 : (((rd_T35 t470 x58_2).f0).toList == ((rd_T35 l0_0 x58_2).f0).toList) = true := beq_iff_eq.mpr c41
             have c41b1 : (((rd_T35 t470 x58_2).f0).toList != ((rd_T35 l0_0 x58_2).f0).toList) = false := bne_eq_false_iff_eq.mpr c41
             clear c41
             by_cases c42 : ((rd_T35 t470 x58_2).f2) = (((rd_T35 t470 x58_2).f1).size : Int)
             ·rw [if_pos c42] at H
              have c42b0 : (((rd_T35 t470 x58_2).f2) == (((rd_T35 t470 x58_2).f1).size : Int)) = true := beq_iff_eq.mpr c42
              have c42b1 : (((rd_T35 t470 x58_2).f2) != (((rd_T35 t470 x58_2).f1).size : Int)) = false := bne_eq_false_iff_eq.mpr c42
              clear c42
              by_cases c43 : (((rd_T35 t470 x58_2).f1).size : Int) < ((rd_T35 l0_0 x58_2).f2)
              ·rw [if_pos c43] at H
               have c43b0 : decide ((((rd_T35 t470 x58_2).f1).size : Int) < ((rd_T35 l0_0 x58_2).f2)) = true := decide_eq_true c43
               clear c43
               exact absurd (H.trans (congrArg some hr)) (by simp)
              ·rw [if_neg c43] at H
               have c43b0 : decide ((((rd_T35 t470 x58_2).f1).size : Int) < ((rd_T35 l0_0 x58_2).f2)) = false := decide_eq_false c43
               clear c43
               by_cases c44 : (((rd_T35 t470 x58_2).f1).size : Int) > (((rd_T35 l0_0 x58_2).f1).size : Int)
               ·rw [if_pos c44] at H
                have c44b0 : decide ((((rd_T35 l0_0 x58_2).f1).size : Int) < (((rd_T35 t470 x58_2).f1).size : Int)) = true := decide_eq_true c44
                have c44b1 : decide (((rd_T35 l0_0 x58_2).f1).size < ((rd_T35 t470 x58_2).f1).size) = true := decide_eq_true (Int.ofNat_lt.mp c44)
                clear c44
                exact absurd (H.trans (congrArg some hr)) (by simp)
               ·rw [if_neg c44] at H
                have c44b0 : decide ((((rd_T35 l0_0 x58_2).f1).size : Int) < (((rd_T35 t470 x58_2).f1).size : Int)) = false := decide_eq_false c44
                have c44b1 : decide (((rd_T35 l0_0 x58_2).f1).size < ((rd_T35 t470 x58_2).f1).size) = false := decide_eq_false (fun h => c44 (Int.ofNat_lt.mpr h))
                clear c44
                by_cases c45 : 0 ≤ (((rd_T35 t470 x58_2).f1).size : Int)
                ·rw [if_pos c45] at H
                 have c45b0 := eq_true c45
                 have c45b1 : decide (0 ≤ (((rd_T35 t470 x58_2).f1).size : Int)) = true := decide_eq_true c45
                 clear c45
                 by_cases c46 : (((rd_T35 t470 x58_2).f1).size : Int) ≤ (((rd_T35 l0_0 x58_2).f1).size : Int)
                 ·rw [if_pos c46] at H
                  have c46b0 := eq_true c46
                  have c46b1 : decide ((((rd_T35 t470 x58_2).f1).size : Int) ≤ (((rd_T35 l0_0 x58_2).f1).size : Int)) = true := decide_eq_true c46
                  clear c46
                  by_cases c47 : (((rd_T35 l0_0 x58_2).f1).extract 0 ((rd_T35 t470 x58_2).f1).size).toList = ((rd_T35 t470 x58_2).f1).toList
                  ·rw [if_pos c47] at H
                   have c47b0 : ((((rd_T35 l0_0 x58_2).f1).extract 0 ((rd_T35 t470 x58_2).f1).size).toList == ((rd_T35 t470 x58_2).f1).toList) = true := beq_iff_eq.mpr c47
                   have c47b1 : ((((rd_T35 l0_0 x58_2).f1).extract 0 ((rd_T35 t470 x58_2).f1).size).toList != ((rd_T35 t470 x58_2).f1).toList) = false := bne_eq_false_iff_eq.mpr c47
                   clear c47
                   have H' := Aside0.mk H
                   clear H
                   have p479 : 0 ≤ (x58_2 : Int) := of_decide_eq_true (by first | (with_reducible assumption) | assumption)
                   have q479 : x58_2 < (t470.length : Int) := of_decide_eq_true (by first | (with_reducible assumption) | assumption)
                   obtain ⟨ad479, e479, hx479_0, hx479_1, hx479_2⟩ := at_T35 (Kd.R_reads' HO_56.out).2.2 x58_2 p479 q479
                   cases e479
                   replace p479 := eq_true p479
                   replace q479 := eq_true q479
                   go_wp2_with (first | ((with_reducible refine gate_dst (N := 10) rfl ?_); (try (refine gate_guard (by rfl) ?_; dsimp only)); refine box_event ?hg (N := 10) ?hd (cs := #[.string (⟨#[]⟩ : ByteArray), .string (⟨#[]⟩ : ByteArray), .int .i64 0]) (t := 35) ?hr ?_; (case hd => rfl); (case hg => rfl); (case hr => first | (go_simp; done) | (go_simp; rfl)); intro gb480 hg w48 hbox hb; replace HO_56 := Aside0.mk (Kd.R_below (Kd.R_elderB (by (with_reducible repeat (first | apply Kd.R_alloc | apply Kd.R_drewN | apply Kd.R_drew)); exact HO_56.out) gb480 (Nat.le_of_eq hg.symm)) hb); replace HO_477000 := Aside0.mk (Kd.R_below (Kd.R_elderB (by (with_reducible repeat (first | apply Kd.R_alloc | apply Kd.R_drewN | apply Kd.R_drew)); exact HO_477000.out) gb480 (Nat.le_of_eq hg.symm)) hb); have BK480 := Aside0.mk (hbox); have GW480 := Aside0.mk (bs_2 hg HB GE468 GE476); have GE480 := Aside0.mk (bs_2 hg HB GE468 GE476); replace HB := Aside0.mk (below_step (bl_2 HB GE468 GE476) hb); have NB468_480 := Aside0.mk (nb_ hg BK468); have NB480_468 := Aside0.mk (nc_ hg BK468); replace BK468 := Aside0.mk (bb_ BK468 hb); have NB476_480 := Aside0.mk (nb_ hg BK476); have NB480_476 := Aside0.mk (nc_ hg BK476); replace BK476 := Aside0.mk (bb_ BK476 hb); clear hb hbox hg; have hnb49 := NB480_468.out; have hnc49 := NB468_480.out; have hnb50 := NB480_476.out; have hnc50 := NB476_480.out; obtain ⟨hcz51_0, hcz51_1, hcz51_2, hfz51_0, hfz51_1, hfz51_2⟩ := c3_ BK480; have hnb52 := NB468_476.out; have hnc52 := NB476_468.out; obtain ⟨hcz53_0, hcz53_1, hcz53_2, hfz53_0, hfz53_1, hfz53_2⟩ := c3_ BK468; have p481 : 0 ≤ (x58_2 : Int) := of_decide_eq_true (by first | (with_reducible assumption) | assumption); have q481 : x58_2 < (l0_0.length : Int) := of_decide_eq_true (by first | (with_reducible assumption) | assumption); obtain ⟨ad481, e481, hx481_0, hx481_1, hx481_2⟩ := at_T35 HR0_0.out x58_2 p481 q481; cases e481; have hn481_0 : ad481.block ≠ gb480 := Nat.ne_of_lt (Nat.lt_of_lt_of_le (by have := World.block_lt_of_cell? _ _ hx481_0; first | rwa [add_block] at this | exact this) GW480.out); have hn481_1 : ad481.block ≠ gb480 := Nat.ne_of_lt (Nat.lt_of_lt_of_le (by have := World.block_lt_of_cell? _ _ hx481_0; first | rwa [add_block] at this | exact this) GW480.out); have hn481_2 : ad481.block ≠ gb480 := Nat.ne_of_lt (Nat.lt_of_lt_of_le (by have := World.block_lt_of_cell? _ _ hx481_0; first | rwa [add_block] at this | exact this) GW480.out); replace hx481_0 := (HB.out.cell (World.block_lt_of_cell? w _ hx481_0)).trans hx481_0; replace hx481_1 := (HB.out.cell (World.block_lt_of_cell? w _ hx481_1)).trans hx481_1; replace hx481_2 := (HB.out.cell (World.block_lt_of_cell? w _ hx481_2)).trans hx481_2; replace hx481_0 := (cf_ (p := ⟨gb480, 0, none⟩) hn481_0 (.string ((rd_T35 t470 x58_2).f0))).trans hx481_0; replace hx481_1 := (cf_ (p := ⟨gb480, 0, none⟩) hn481_0 (.string ((rd_T35 t470 x58_2).f0))).trans hx481_1; replace hx481_2 := (cf_ (p := ⟨gb480, 0, none⟩) hn481_0 (.string ((rd_T35 t470 x58_2).f0))).trans hx481_2; replace hx481_0 := (cf_ (p := ⟨gb480, 1, none⟩) hn481_1 (.string ((rd_T35 t470 x58_2).f1))).trans hx481_0; replace hx481_1 := (cf_ (p := ⟨gb480, 1, none⟩) hn481_1 (.string ((rd_T35 t470 x58_2).f1))).trans hx481_1; replace hx481_2 := (cf_ (p := ⟨gb480, 1, none⟩) hn481_1 (.string ((rd_T35 t470 x58_2).f1))).trans hx481_2; replace hx481_0 := (cf_ (p := ⟨gb480, 2, none⟩) hn481_2 (.int .i64 ((rd_T35 t470 x58_2).f2))).trans hx481_0; replace hx481_1 := (cf_ (p := ⟨gb480, 2, none⟩) hn481_2 (.int .i64 ((rd_T35 t470 x58_2).f2))).trans hx481_1; replace hx481_2 := (cf_ (p := ⟨gb480, 2, none⟩) hn481_2 (.int .i64 ((rd_T35 t470 x58_2).f2))).trans hx481_2; (try have hy481_0 := fun (n_ : Nat) => (show (((((w48.drewN n_).setCell ⟨gb480, 0, none⟩ (.string ((rd_T35 t470 x58_2).f0))).setCell ⟨gb480, 1, none⟩ (.string ((rd_T35 t470 x58_2).f1))).setCell ⟨gb480, 2, none⟩ (.int .i64 ((rd_T35 t470 x58_2).f2)))).cell? _ = some _ from hx481_0)); (try have hy481_1 := fun (n_ : Nat) => (show (((((w48.drewN n_).setCell ⟨gb480, 0, none⟩ (.string ((rd_T35 t470 x58_2).f0))).setCell ⟨gb480, 1, none⟩ (.string ((rd_T35 t470 x58_2).f1))).setCell ⟨gb480, 2, none⟩ (.int .i64 ((rd_T35 t470 x58_2).f2)))).cell? _ = some _ from hx481_1)); (try have hy481_2 := fun (n_ : Nat) => (show (((((w48.drewN n_).setCell ⟨gb480, 0, none⟩ (.string ((rd_T35 t470 x58_2).f0))).setCell ⟨gb480, 1, none⟩ (.string ((rd_T35 t470 x58_2).f1))).setCell ⟨gb480, 2, none⟩ (.int .i64 ((rd_T35 t470 x58_2).f2)))).cell? _ = some _ from hx481_2)); clear hn481_0; clear hn481_1; clear hn481_2; replace p481 := eq_true p481; replace q481 := eq_true q481) | ((with_reducible refine gate_dst (N := 11) rfl ?_); (try (refine gate_guard (by rfl) ?_; dsimp only)); refine box_event ?hg (N := 11) ?hd (cs := #[.string (⟨#[]⟩ : ByteArray), .string (⟨#[]⟩ : ByteArray), .int .i64 0]) (t := 35) ?hr ?_; (case hd => rfl); (case hg => rfl); (case hr => first | (go_simp; done) | (go_simp; rfl)); intro gb482 hg w54 hbox hb; replace HO_56 := Aside0.mk (Kd.R_below (Kd.R_elderB (by (with_reducible repeat (first | apply Kd.R_alloc | apply Kd.R_drewN | apply Kd.R_drew)); exact (Kd.R_mono (Kd.R_far (p := ⟨gb480, 2, none⟩) (Kd.R_far (p := ⟨gb480, 1, none⟩) (Kd.R_far (p := ⟨gb480, 0, none⟩) (Kd.R_mono HO_56.out (fun k_ hk => (⟨hk, hk.2⟩ : _ ∧ k_ ≠ gb480))) (fun _ hk => hk.2) (.string ((rd_T35 t470 x58_2).f0))) (fun _ hk => hk.2) (.string ((rd_T35 t470 x58_2).f1))) (fun _ hk => hk.2) (.int .i64 ((rd_T35 t470 x58_2).f2))) (fun _ h_ => h_.1))) gb482 (Nat.le_of_eq hg.symm)) hb); replace HO_477000 := Aside0.mk (Kd.R_below (Kd.R_elderB (by (with_reducible repeat (first | apply Kd.R_alloc | apply Kd.R_drewN | apply Kd.R_drew)); exact (Kd.R_mono (Kd.R_far (p := ⟨gb480, 2, none⟩) (Kd.R_far (p := ⟨gb480, 1, none⟩) (Kd.R_far (p := ⟨gb480, 0, none⟩) (Kd.R_mono HO_477000.out (fun k_ hk => (⟨hk, hk.2⟩ : _ ∧ k_ ≠ gb480))) (fun _ hk => hk.2) (.string ((rd_T35 t470 x58_2).f0))) (fun _ hk => hk.2) (.string ((rd_T35 t470 x58_2).f1))) (fun _ hk => hk.2) (.int .i64 ((rd_T35 t470 x58_2).f2))) (fun _ h_ => h_.1))) gb482 (Nat.le_of_eq hg.symm)) hb); have BK482 := Aside0.mk (hbox); have GW482 := Aside0.mk (bs_3 hg HB GE468 GE476 GE480); have GE482 := Aside0.mk (bs_3 hg HB GE468 GE476 GE480); replace HB := Aside0.mk (below_step (bl_3 HB GE468 GE476 GE480) hb); have NB468_482 := Aside0.mk ((by rw [hg]; exact Nat.ne_of_lt (blk_lt (g := gb468) (o := .cells #[.slice (some ad481) l0_0.length c0_0, .bool a0_1, .int .i64 a0_2] 24 (0, 0)) (bp_1 BK468 NB468_480)) : gb468 ≠ gb482)); have NB482_468 := Aside0.mk ((by rw [hg]; exact Nat.ne_of_gt (blk_lt (g := gb468) (o := .cells #[.slice (some ad481) l0_0.length c0_0, .bool a0_1, .int .i64 a0_2] 24 (0, 0)) (bp_1 BK468 NB468_480)) : gb482 ≠ gb468)); replace BK468 := Aside0.mk (blk_below (g := gb468) (o := .cells #[.slice (some ad481) l0_0.length c0_0, .bool a0_1, .int .i64 a0_2] 24 (0, 0)) (bp_1 BK468 NB468_480) hb); have NB476_482 := Aside0.mk ((by rw [hg]; exact Nat.ne_of_lt (blk_lt (g := gb476) (o := .cells #[.slice (some ad479) t470.length co14, .bool t473, .int .i64 t474] 24 (0, 0)) (bp_1 BK476 NB476_480)) : gb476 ≠ gb482)); have NB482_476 := Aside0.mk ((by rw [hg]; exact Nat.ne_of_gt (blk_lt (g := gb476) (o := .cells #[.slice (some ad479) t470.length co14, .bool t473, .int .i64 t474] 24 (0, 0)) (bp_1 BK476 NB476_480)) : gb482 ≠ gb476)); replace BK476 := Aside0.mk (blk_below (g := gb476) (o := .cells #[.slice (some ad479) t470.length co14, .bool t473, .int .i64 t474] 24 (0, 0)) (bp_1 BK476 NB476_480) hb); have NB480_482 := Aside0.mk ((by rw [hg]; exact Nat.ne_of_lt (blk_lt (g := gb480) (o := .cells #[.string ((rd_T35 t470 x58_2).f0), .string ((rd_T35 t470 x58_2).f1), .int .i64 ((rd_T35 t470 x58_2).f2)] 35 (0, 0)) (bp_0 BK480)) : gb480 ≠ gb482)); have NB482_480 := Aside0.mk ((by rw [hg]; exact Nat.ne_of_gt (blk_lt (g := gb480) (o := .cells #[.string ((rd_T35 t470 x58_2).f0), .string ((rd_T35 t470 x58_2).f1), .int .i64 ((rd_T35 t470 x58_2).f2)] 35 (0, 0)) (bp_0 BK480)) : gb482 ≠ gb480)); replace BK480 := Aside0.mk (blk_below (g := gb480) (o := .cells #[.string ((rd_T35 t470 x58_2).f0), .string ((rd_T35 t470 x58_2).f1), .int .i64 ((rd_T35 t470 x58_2).f2)] 35 (0, 0)) (bp_0 BK480) hb); clear hb hbox hg; have hnb55 := NB482_468.out; have hnc55 := NB468_482.out; have hnb56 := NB482_476.out; have hnc56 := NB476_482.out; have hnb57 := NB482_480.out; have hnc57 := NB480_482.out; obtain ⟨hcz58_0, hcz58_1, hcz58_2, hfz58_0, hfz58_1, hfz58_2⟩ := c3_ BK482; obtain ⟨hcz59_0, hcz59_1, hcz59_2, hfz59_0, hfz59_1, hfz59_2⟩ := c3_ BK480))
                   repeat (go_quiet (first | ((with_reducible refine gate_dst (N := 10) rfl ?_); (try (refine gate_guard (by rfl) ?_; dsimp only)); refine box_event ?hg (N := 10) ?hd (cs := #[.string (⟨#[]⟩ : ByteArray), .string (⟨#[]⟩ : ByteArray), .int .i64 0]) (t := 35) ?hr ?_; (case hd => rfl); (case hg => rfl); (case hr => first | (go_simp; done) | (go_simp; rfl)); intro gb480 hg w48 hbox hb; replace HO_56 := Aside0.mk (Kd.R_below (Kd.R_elderB (by (with_reducible repeat (first | apply Kd.R_alloc | apply Kd.R_drewN | apply Kd.R_drew)); exact HO_56.out) gb480 (Nat.le_of_eq hg.symm)) hb); replace HO_477000 := Aside0.mk (Kd.R_below (Kd.R_elderB (by (with_reducible repeat (first | apply Kd.R_alloc | apply Kd.R_drewN | apply Kd.R_drew)); exact HO_477000.out) gb480 (Nat.le_of_eq hg.symm)) hb); have BK480 := Aside0.mk (hbox); have GW480 := Aside0.mk (bs_2 hg HB GE468 GE476); have GE480 := Aside0.mk (bs_2 hg HB GE468 GE476); replace HB := Aside0.mk (below_step (bl_2 HB GE468 GE476) hb); have NB468_480 := Aside0.mk (nb_ hg BK468); have NB480_468 := Aside0.mk (nc_ hg BK468); replace BK468 := Aside0.mk (bb_ BK468 hb); have NB476_480 := Aside0.mk (nb_ hg BK476); have NB480_476 := Aside0.mk (nc_ hg BK476); replace BK476 := Aside0.mk (bb_ BK476 hb); clear hb hbox hg; have hnb49 := NB480_468.out; have hnc49 := NB468_480.out; have hnb50 := NB480_476.out; have hnc50 := NB476_480.out; obtain ⟨hcz51_0, hcz51_1, hcz51_2, hfz51_0, hfz51_1, hfz51_2⟩ := c3_ BK480; have hnb52 := NB468_476.out; have hnc52 := NB476_468.out; obtain ⟨hcz53_0, hcz53_1, hcz53_2, hfz53_0, hfz53_1, hfz53_2⟩ := c3_ BK468; have p481 : 0 ≤ (x58_2 : Int) := of_decide_eq_true (by first | (with_reducible assumption) | assumption); have q481 : x58_2 < (l0_0.length : Int) := of_decide_eq_true (by first | (with_reducible assumption) | assumption); obtain ⟨ad481, e481, hx481_0, hx481_1, hx481_2⟩ := at_T35 HR0_0.out x58_2 p481 q481; cases e481; have hn481_0 : ad481.block ≠ gb480 := Nat.ne_of_lt (Nat.lt_of_lt_of_le (by have := World.block_lt_of_cell? _ _ hx481_0; first | rwa [add_block] at this | exact this) GW480.out); have hn481_1 : ad481.block ≠ gb480 := Nat.ne_of_lt (Nat.lt_of_lt_of_le (by have := World.block_lt_of_cell? _ _ hx481_0; first | rwa [add_block] at this | exact this) GW480.out); have hn481_2 : ad481.block ≠ gb480 := Nat.ne_of_lt (Nat.lt_of_lt_of_le (by have := World.block_lt_of_cell? _ _ hx481_0; first | rwa [add_block] at this | exact this) GW480.out); replace hx481_0 := (HB.out.cell (World.block_lt_of_cell? w _ hx481_0)).trans hx481_0; replace hx481_1 := (HB.out.cell (World.block_lt_of_cell? w _ hx481_1)).trans hx481_1; replace hx481_2 := (HB.out.cell (World.block_lt_of_cell? w _ hx481_2)).trans hx481_2; replace hx481_0 := (cf_ (p := ⟨gb480, 0, none⟩) hn481_0 (.string ((rd_T35 t470 x58_2).f0))).trans hx481_0; replace hx481_1 := (cf_ (p := ⟨gb480, 0, none⟩) hn481_0 (.string ((rd_T35 t470 x58_2).f0))).trans hx481_1; replace hx481_2 := (cf_ (p := ⟨gb480, 0, none⟩) hn481_0 (.string ((rd_T35 t470 x58_2).f0))).trans hx481_2; replace hx481_0 := (cf_ (p := ⟨gb480, 1, none⟩) hn481_1 (.string ((rd_T35 t470 x58_2).f1))).trans hx481_0; replace hx481_1 := (cf_ (p := ⟨gb480, 1, none⟩) hn481_1 (.string ((rd_T35 t470 x58_2).f1))).trans hx481_1; replace hx481_2 := (cf_ (p := ⟨gb480, 1, none⟩) hn481_1 (.string ((rd_T35 t470 x58_2).f1))).trans hx481_2; replace hx481_0 := (cf_ (p := ⟨gb480, 2, none⟩) hn481_2 (.int .i64 ((rd_T35 t470 x58_2).f2))).trans hx481_0; replace hx481_1 := (cf_ (p := ⟨gb480, 2, none⟩) hn481_2 (.int .i64 ((rd_T35 t470 x58_2).f2))).trans hx481_1; replace hx481_2 := (cf_ (p := ⟨gb480, 2, none⟩) hn481_2 (.int .i64 ((rd_T35 t470 x58_2).f2))).trans hx481_2; (try have hy481_0 := fun (n_ : Nat) => (show (((((w48.drewN n_).setCell ⟨gb480, 0, none⟩ (.string ((rd_T35 t470 x58_2).f0))).setCell ⟨gb480, 1, none⟩ (.string ((rd_T35 t470 x58_2).f1))).setCell ⟨gb480, 2, none⟩ (.int .i64 ((rd_T35 t470 x58_2).f2)))).cell? _ = some _ from hx481_0)); (try have hy481_1 := fun (n_ : Nat) => (show (((((w48.drewN n_).setCell ⟨gb480, 0, none⟩ (.string ((rd_T35 t470 x58_2).f0))).setCell ⟨gb480, 1, none⟩ (.string ((rd_T35 t470 x58_2).f1))).setCell ⟨gb480, 2, none⟩ (.int .i64 ((rd_T35 t470 x58_2).f2)))).cell? _ = some _ from hx481_1)); (try have hy481_2 := fun (n_ : Nat) => (show (((((w48.drewN n_).setCell ⟨gb480, 0, none⟩ (.string ((rd_T35 t470 x58_2).f0))).setCell ⟨gb480, 1, none⟩ (.string ((rd_T35 t470 x58_2).f1))).setCell ⟨gb480, 2, none⟩ (.int .i64 ((rd_T35 t470 x58_2).f2)))).cell? _ = some _ from hx481_2)); clear hn481_0; clear hn481_1; clear hn481_2; replace p481 := eq_true p481; replace q481 := eq_true q481) | ((with_reducible refine gate_dst (N := 11) rfl ?_); (try (refine gate_guard (by rfl) ?_; dsimp only)); refine box_event ?hg (N := 11) ?hd (cs := #[.string (⟨#[]⟩ : ByteArray), .string (⟨#[]⟩ : ByteArray), .int .i64 0]) (t := 35) ?hr ?_; (case hd => rfl); (case hg => rfl); (case hr => first | (go_simp; done) | (go_simp; rfl)); intro gb482 hg w54 hbox hb; replace HO_56 := Aside0.mk (Kd.R_below (Kd.R_elderB (by (with_reducible repeat (first | apply Kd.R_alloc | apply Kd.R_drewN | apply Kd.R_drew)); exact (Kd.R_mono (Kd.R_far (p := ⟨gb480, 2, none⟩) (Kd.R_far (p := ⟨gb480, 1, none⟩) (Kd.R_far (p := ⟨gb480, 0, none⟩) (Kd.R_mono HO_56.out (fun k_ hk => (⟨hk, hk.2⟩ : _ ∧ k_ ≠ gb480))) (fun _ hk => hk.2) (.string ((rd_T35 t470 x58_2).f0))) (fun _ hk => hk.2) (.string ((rd_T35 t470 x58_2).f1))) (fun _ hk => hk.2) (.int .i64 ((rd_T35 t470 x58_2).f2))) (fun _ h_ => h_.1))) gb482 (Nat.le_of_eq hg.symm)) hb); replace HO_477000 := Aside0.mk (Kd.R_below (Kd.R_elderB (by (with_reducible repeat (first | apply Kd.R_alloc | apply Kd.R_drewN | apply Kd.R_drew)); exact (Kd.R_mono (Kd.R_far (p := ⟨gb480, 2, none⟩) (Kd.R_far (p := ⟨gb480, 1, none⟩) (Kd.R_far (p := ⟨gb480, 0, none⟩) (Kd.R_mono HO_477000.out (fun k_ hk => (⟨hk, hk.2⟩ : _ ∧ k_ ≠ gb480))) (fun _ hk => hk.2) (.string ((rd_T35 t470 x58_2).f0))) (fun _ hk => hk.2) (.string ((rd_T35 t470 x58_2).f1))) (fun _ hk => hk.2) (.int .i64 ((rd_T35 t470 x58_2).f2))) (fun _ h_ => h_.1))) gb482 (Nat.le_of_eq hg.symm)) hb); have BK482 := Aside0.mk (hbox); have GW482 := Aside0.mk (bs_3 hg HB GE468 GE476 GE480); have GE482 := Aside0.mk (bs_3 hg HB GE468 GE476 GE480); replace HB := Aside0.mk (below_step (bl_3 HB GE468 GE476 GE480) hb); have NB468_482 := Aside0.mk ((by rw [hg]; exact Nat.ne_of_lt (blk_lt (g := gb468) (o := .cells #[.slice (some ad481) l0_0.length c0_0, .bool a0_1, .int .i64 a0_2] 24 (0, 0)) (bp_1 BK468 NB468_480)) : gb468 ≠ gb482)); have NB482_468 := Aside0.mk ((by rw [hg]; exact Nat.ne_of_gt (blk_lt (g := gb468) (o := .cells #[.slice (some ad481) l0_0.length c0_0, .bool a0_1, .int .i64 a0_2] 24 (0, 0)) (bp_1 BK468 NB468_480)) : gb482 ≠ gb468)); replace BK468 := Aside0.mk (blk_below (g := gb468) (o := .cells #[.slice (some ad481) l0_0.length c0_0, .bool a0_1, .int .i64 a0_2] 24 (0, 0)) (bp_1 BK468 NB468_480) hb); have NB476_482 := Aside0.mk ((by rw [hg]; exact Nat.ne_of_lt (blk_lt (g := gb476) (o := .cells #[.slice (some ad479) t470.length co14, .bool t473, .int .i64 t474] 24 (0, 0)) (bp_1 BK476 NB476_480)) : gb476 ≠ gb482)); have NB482_476 := Aside0.mk ((by rw [hg]; exact Nat.ne_of_gt (blk_lt (g := gb476) (o := .cells #[.slice (some ad479) t470.length co14, .bool t473, .int .i64 t474] 24 (0, 0)) (bp_1 BK476 NB476_480)) : gb482 ≠ gb476)); replace BK476 := Aside0.mk (blk_below (g := gb476) (o := .cells #[.slice (some ad479) t470.length co14, .bool t473, .int .i64 t474] 24 (0, 0)) (bp_1 BK476 NB476_480) hb); have NB480_482 := Aside0.mk ((by rw [hg]; exact Nat.ne_of_lt (blk_lt (g := gb480) (o := .cells #[.string ((rd_T35 t470 x58_2).f0), .string ((rd_T35 t470 x58_2).f1), .int .i64 ((rd_T35 t470 x58_2).f2)] 35 (0, 0)) (bp_0 BK480)) : gb480 ≠ gb482)); have NB482_480 := Aside0.mk ((by rw [hg]; exact Nat.ne_of_gt (blk_lt (g := gb480) (o := .cells #[.string ((rd_T35 t470 x58_2).f0), .string ((rd_T35 t470 x58_2).f1), .int .i64 ((rd_T35 t470 x58_2).f2)] 35 (0, 0)) (bp_0 BK480)) : gb482 ≠ gb480)); replace BK480 := Aside0.mk (blk_below (g := gb480) (o := .cells #[.string ((rd_T35 t470 x58_2).f0), .string ((rd_T35 t470 x58_2).f1), .int .i64 ((rd_T35 t470 x58_2).f2)] 35 (0, 0)) (bp_0 BK480) hb); clear hb hbox hg; have hnb55 := NB482_468.out; have hnc55 := NB468_482.out; have hnb56 := NB482_476.out; have hnc56 := NB476_482.out; have hnb57 := NB482_480.out; have hnc57 := NB480_482.out; obtain ⟨hcz58_0, hcz58_1, hcz58_2, hfz58_0, hfz58_1, hfz58_2⟩ := c3_ BK482; obtain ⟨hcz59_0, hcz59_1, hcz59_2, hfz59_0, hfz59_1, hfz59_2⟩ := c3_ BK480)); try go_wp2_with (first | ((with_reducible refine gate_dst (N := 10) rfl ?_); (try (refine gate_guard (by rfl) ?_; dsimp only)); refine box_event ?hg (N := 10) ?hd (cs := #[.string (⟨#[]⟩ : ByteArray), .string (⟨#[]⟩ : ByteArray), .int .i64 0]) (t := 35) ?hr ?_; (case hd => rfl); (case hg => rfl); (case hr => first | (go_simp; done) | (go_simp; rfl)); intro gb480 hg w48 hbox hb; replace HO_56 := Aside0.mk (Kd.R_below (Kd.R_elderB (by (with_reducible repeat (first | apply Kd.R_alloc | apply Kd.R_drewN | apply Kd.R_drew)); exact HO_56.out) gb480 (Nat.le_of_eq hg.symm)) hb); replace HO_477000 := Aside0.mk (Kd.R_below (Kd.R_elderB (by (with_reducible repeat (first | apply Kd.R_alloc | apply Kd.R_drewN | apply Kd.R_drew)); exact HO_477000.out) gb480 (Nat.le_of_eq hg.symm)) hb); have BK480 := Aside0.mk (hbox); have GW480 := Aside0.mk (bs_2 hg HB GE468 GE476); have GE480 := Aside0.mk (bs_2 hg HB GE468 GE476); replace HB := Aside0.mk (below_step (bl_2 HB GE468 GE476) hb); have NB468_480 := Aside0.mk (nb_ hg BK468); have NB480_468 := Aside0.mk (nc_ hg BK468); replace BK468 := Aside0.mk (bb_ BK468 hb); have NB476_480 := Aside0.mk (nb_ hg BK476); have NB480_476 := Aside0.mk (nc_ hg BK476); replace BK476 := Aside0.mk (bb_ BK476 hb); clear hb hbox hg; have hnb49 := NB480_468.out; have hnc49 := NB468_480.out; have hnb50 := NB480_476.out; have hnc50 := NB476_480.out; obtain ⟨hcz51_0, hcz51_1, hcz51_2, hfz51_0, hfz51_1, hfz51_2⟩ := c3_ BK480; have hnb52 := NB468_476.out; have hnc52 := NB476_468.out; obtain ⟨hcz53_0, hcz53_1, hcz53_2, hfz53_0, hfz53_1, hfz53_2⟩ := c3_ BK468; have p481 : 0 ≤ (x58_2 : Int) := of_decide_eq_true (by first | (with_reducible assumption) | assumption); have q481 : x58_2 < (l0_0.length : Int) := of_decide_eq_true (by first | (with_reducible assumption) | assumption); obtain ⟨ad481, e481, hx481_0, hx481_1, hx481_2⟩ := at_T35 HR0_0.out x58_2 p481 q481; cases e481; have hn481_0 : ad481.block ≠ gb480 := Nat.ne_of_lt (Nat.lt_of_lt_of_le (by have := World.block_lt_of_cell? _ _ hx481_0; first | rwa [add_block] at this | exact this) GW480.out); have hn481_1 : ad481.block ≠ gb480 := Nat.ne_of_lt (Nat.lt_of_lt_of_le (by have := World.block_lt_of_cell? _ _ hx481_0; first | rwa [add_block] at this | exact this) GW480.out); have hn481_2 : ad481.block ≠ gb480 := Nat.ne_of_lt (Nat.lt_of_lt_of_le (by have := World.block_lt_of_cell? _ _ hx481_0; first | rwa [add_block] at this | exact this) GW480.out); replace hx481_0 := (HB.out.cell (World.block_lt_of_cell? w _ hx481_0)).trans hx481_0; replace hx481_1 := (HB.out.cell (World.block_lt_of_cell? w _ hx481_1)).trans hx481_1; replace hx481_2 := (HB.out.cell (World.block_lt_of_cell? w _ hx481_2)).trans hx481_2; replace hx481_0 := (cf_ (p := ⟨gb480, 0, none⟩) hn481_0 (.string ((rd_T35 t470 x58_2).f0))).trans hx481_0; replace hx481_1 := (cf_ (p := ⟨gb480, 0, none⟩) hn481_0 (.string ((rd_T35 t470 x58_2).f0))).trans hx481_1; replace hx481_2 := (cf_ (p := ⟨gb480, 0, none⟩) hn481_0 (.string ((rd_T35 t470 x58_2).f0))).trans hx481_2; replace hx481_0 := (cf_ (p := ⟨gb480, 1, none⟩) hn481_1 (.string ((rd_T35 t470 x58_2).f1))).trans hx481_0; replace hx481_1 := (cf_ (p := ⟨gb480, 1, none⟩) hn481_1 (.string ((rd_T35 t470 x58_2).f1))).trans hx481_1; replace hx481_2 := (cf_ (p := ⟨gb480, 1, none⟩) hn481_1 (.string ((rd_T35 t470 x58_2).f1))).trans hx481_2; replace hx481_0 := (cf_ (p := ⟨gb480, 2, none⟩) hn481_2 (.int .i64 ((rd_T35 t470 x58_2).f2))).trans hx481_0; replace hx481_1 := (cf_ (p := ⟨gb480, 2, none⟩) hn481_2 (.int .i64 ((rd_T35 t470 x58_2).f2))).trans hx481_1; replace hx481_2 := (cf_ (p := ⟨gb480, 2, none⟩) hn481_2 (.int .i64 ((rd_T35 t470 x58_2).f2))).trans hx481_2; (try have hy481_0 := fun (n_ : Nat) => (show (((((w48.drewN n_).setCell ⟨gb480, 0, none⟩ (.string ((rd_T35 t470 x58_2).f0))).setCell ⟨gb480, 1, none⟩ (.string ((rd_T35 t470 x58_2).f1))).setCell ⟨gb480, 2, none⟩ (.int .i64 ((rd_T35 t470 x58_2).f2)))).cell? _ = some _ from hx481_0)); (try have hy481_1 := fun (n_ : Nat) => (show (((((w48.drewN n_).setCell ⟨gb480, 0, none⟩ (.string ((rd_T35 t470 x58_2).f0))).setCell ⟨gb480, 1, none⟩ (.string ((rd_T35 t470 x58_2).f1))).setCell ⟨gb480, 2, none⟩ (.int .i64 ((rd_T35 t470 x58_2).f2)))).cell? _ = some _ from hx481_1)); (try have hy481_2 := fun (n_ : Nat) => (show (((((w48.drewN n_).setCell ⟨gb480, 0, none⟩ (.string ((rd_T35 t470 x58_2).f0))).setCell ⟨gb480, 1, none⟩ (.string ((rd_T35 t470 x58_2).f1))).setCell ⟨gb480, 2, none⟩ (.int .i64 ((rd_T35 t470 x58_2).f2)))).cell? _ = some _ from hx481_2)); clear hn481_0; clear hn481_1; clear hn481_2; replace p481 := eq_true p481; replace q481 := eq_true q481) | ((with_reducible refine gate_dst (N := 11) rfl ?_); (try (refine gate_guard (by rfl) ?_; dsimp only)); refine box_event ?hg (N := 11) ?hd (cs := #[.string (⟨#[]⟩ : ByteArray), .string (⟨#[]⟩ : ByteArray), .int .i64 0]) (t := 35) ?hr ?_; (case hd => rfl); (case hg => rfl); (case hr => first | (go_simp; done) | (go_simp; rfl)); intro gb482 hg w54 hbox hb; replace HO_56 := Aside0.mk (Kd.R_below (Kd.R_elderB (by (with_reducible repeat (first | apply Kd.R_alloc | apply Kd.R_drewN | apply Kd.R_drew)); exact (Kd.R_mono (Kd.R_far (p := ⟨gb480, 2, none⟩) (Kd.R_far (p := ⟨gb480, 1, none⟩) (Kd.R_far (p := ⟨gb480, 0, none⟩) (Kd.R_mono HO_56.out (fun k_ hk => (⟨hk, hk.2⟩ : _ ∧ k_ ≠ gb480))) (fun _ hk => hk.2) (.string ((rd_T35 t470 x58_2).f0))) (fun _ hk => hk.2) (.string ((rd_T35 t470 x58_2).f1))) (fun _ hk => hk.2) (.int .i64 ((rd_T35 t470 x58_2).f2))) (fun _ h_ => h_.1))) gb482 (Nat.le_of_eq hg.symm)) hb); replace HO_477000 := Aside0.mk (Kd.R_below (Kd.R_elderB (by (with_reducible repeat (first | apply Kd.R_alloc | apply Kd.R_drewN | apply Kd.R_drew)); exact (Kd.R_mono (Kd.R_far (p := ⟨gb480, 2, none⟩) (Kd.R_far (p := ⟨gb480, 1, none⟩) (Kd.R_far (p := ⟨gb480, 0, none⟩) (Kd.R_mono HO_477000.out (fun k_ hk => (⟨hk, hk.2⟩ : _ ∧ k_ ≠ gb480))) (fun _ hk => hk.2) (.string ((rd_T35 t470 x58_2).f0))) (fun _ hk => hk.2) (.string ((rd_T35 t470 x58_2).f1))) (fun _ hk => hk.2) (.int .i64 ((rd_T35 t470 x58_2).f2))) (fun _ h_ => h_.1))) gb482 (Nat.le_of_eq hg.symm)) hb); have BK482 := Aside0.mk (hbox); have GW482 := Aside0.mk (bs_3 hg HB GE468 GE476 GE480); have GE482 := Aside0.mk (bs_3 hg HB GE468 GE476 GE480); replace HB := Aside0.mk (below_step (bl_3 HB GE468 GE476 GE480) hb); have NB468_482 := Aside0.mk ((by rw [hg]; exact Nat.ne_of_lt (blk_lt (g := gb468) (o := .cells #[.slice (some ad481) l0_0.length c0_0, .bool a0_1, .int .i64 a0_2] 24 (0, 0)) (bp_1 BK468 NB468_480)) : gb468 ≠ gb482)); have NB482_468 := Aside0.mk ((by rw [hg]; exact Nat.ne_of_gt (blk_lt (g := gb468) (o := .cells #[.slice (some ad481) l0_0.length c0_0, .bool a0_1, .int .i64 a0_2] 24 (0, 0)) (bp_1 BK468 NB468_480)) : gb482 ≠ gb468)); replace BK468 := Aside0.mk (blk_below (g := gb468) (o := .cells #[.slice (some ad481) l0_0.length c0_0, .bool a0_1, .int .i64 a0_2] 24 (0, 0)) (bp_1 BK468 NB468_480) hb); have NB476_482 := Aside0.mk ((by rw [hg]; exact Nat.ne_of_lt (blk_lt (g := gb476) (o := .cells #[.slice (some ad479) t470.length co14, .bool t473, .int .i64 t474] 24 (0, 0)) (bp_1 BK476 NB476_480)) : gb476 ≠ gb482)); have NB482_476 := Aside0.mk ((by rw [hg]; exact Nat.ne_of_gt (blk_lt (g := gb476) (o := .cells #[.slice (some ad479) t470.length co14, .bool t473, .int .i64 t474] 24 (0, 0)) (bp_1 BK476 NB476_480)) : gb482 ≠ gb476)); replace BK476 := Aside0.mk (blk_below (g := gb476) (o := .cells #[.slice (some ad479) t470.length co14, .bool t473, .int .i64 t474] 24 (0, 0)) (bp_1 BK476 NB476_480) hb); have NB480_482 := Aside0.mk ((by rw [hg]; exact Nat.ne_of_lt (blk_lt (g := gb480) (o := .cells #[.string ((rd_T35 t470 x58_2).f0), .string ((rd_T35 t470 x58_2).f1), .int .i64 ((rd_T35 t470 x58_2).f2)] 35 (0, 0)) (bp_0 BK480)) : gb480 ≠ gb482)); have NB482_480 := Aside0.mk ((by rw [hg]; exact Nat.ne_of_gt (blk_lt (g := gb480) (o := .cells #[.string ((rd_T35 t470 x58_2).f0), .string ((rd_T35 t470 x58_2).f1), .int .i64 ((rd_T35 t470 x58_2).f2)] 35 (0, 0)) (bp_0 BK480)) : gb482 ≠ gb480)); replace BK480 := Aside0.mk (blk_below (g := gb480) (o := .cells #[.string ((rd_T35 t470 x58_2).f0), .string ((rd_T35 t470 x58_2).f1), .int .i64 ((rd_T35 t470 x58_2).f2)] 35 (0, 0)) (bp_0 BK480) hb); clear hb hbox hg; have hnb55 := NB482_468.out; have hnc55 := NB468_482.out; have hnb56 := NB482_476.out; have hnc56 := NB476_482.out; have hnb57 := NB482_480.out; have hnc57 := NB480_482.out; obtain ⟨hcz58_0, hcz58_1, hcz58_2, hfz58_0, hfz58_1, hfz58_2⟩ := c3_ BK482; obtain ⟨hcz59_0, hcz59_1, hcz59_2, hfz59_0, hfz59_1, hfz59_2⟩ := c3_ BK480)))
                   go_roundg k2
                   case measure => have := HJ7.out; have := HK2.out; omega
                   case rel => exact ⟨(wrap64 (x58_2 + 1)), (by first | rfl | (simp; done) | (simp [*]; done)), H', ⟨by have := HJ7.out; have := HK2.out; omega⟩, ⟨by (with_reducible repeat (first | apply Kd.R_alloc | apply Kd.R_drewN | apply Kd.R_drew)); exact Kd.R_mono (Kd.R_far (p := ⟨gb482, 2, none⟩) (Kd.R_far (p := ⟨gb482, 1, none⟩) (Kd.R_far (p := ⟨gb482, 0, none⟩) (Kd.R_mono HO_56.out (fun k_ hk => (⟨hk, hk.2⟩ : _ ∧ k_ ≠ gb482))) (fun _ hk => hk.2) (.string ((rd_T35 l0_0 x58_2).f0))) (fun _ hk => hk.2) (.string ((rd_T35 l0_0 x58_2).f1))) (fun _ hk => hk.2) (.int .i64 ((rd_T35 l0_0 x58_2).f2))) (fun _ hk => trivial)⟩, ⟨by (with_reducible repeat (first | apply Kd.R_alloc | apply Kd.R_drewN | apply Kd.R_drew)); exact Kd.R_mono (Kd.R_far (p := ⟨gb482, 2, none⟩) (Kd.R_far (p := ⟨gb482, 1, none⟩) (Kd.R_far (p := ⟨gb482, 0, none⟩) (Kd.R_mono HO_477000.out (fun k_ hk => (⟨hk, hk.2⟩ : _ ∧ k_ ≠ gb482))) (fun _ hk => hk.2) (.string ((rd_T35 l0_0 x58_2).f0))) (fun _ hk => hk.2) (.string ((rd_T35 l0_0 x58_2).f1))) (fun _ hk => hk.2) (.int .i64 ((rd_T35 l0_0 x58_2).f2))) (fun _ hk => trivial)⟩, ⟨by (with_reducible repeat (first | refine blk_drewN ?_ _ | refine blk_drew ?_ | refine blk_alloc ?_ _)); refine blk_far ?_ NB468_482.out _; (with_reducible repeat (first | refine blk_drewN ?_ _ | refine blk_drew ?_ | refine blk_alloc ?_ _)); refine blk_far ?_ NB468_482.out _; (with_reducible repeat (first | refine blk_drewN ?_ _ | refine blk_drew ?_ | refine blk_alloc ?_ _)); refine blk_far ?_ NB468_482.out _; (with_reducible repeat (first | refine blk_drewN ?_ _ | refine blk_drew ?_ | refine blk_alloc ?_ _)); exact BK468.out⟩, ⟨by (with_reducible repeat (first | refine blk_drewN ?_ _ | refine blk_drew ?_ | refine blk_alloc ?_ _)); refine blk_far ?_ NB476_482.out _; (with_reducible repeat (first | refine blk_drewN ?_ _ | refine blk_drew ?_ | refine blk_alloc ?_ _)); refine blk_far ?_ NB476_482.out _; (with_reducible repeat (first | refine blk_drewN ?_ _ | refine blk_drew ?_ | refine blk_alloc ?_ _)); refine blk_far ?_ NB476_482.out _; (with_reducible repeat (first | refine blk_drewN ?_ _ | refine blk_drew ?_ | refine blk_alloc ?_ _)); exact BK476.out⟩, ⟨bl_4 HB GE468 GE476 GE480 GE482⟩⟩
                  ·rw [if_neg c47] at H
                   have c47b0 : ((((rd_T35 l0_0 x58_2).f1).extract 0 ((rd_T35 t470 x58_2).f1).size).toList == ((rd_T35 t470 x58_2).f1).toList) = false := beq_eq_false_iff_ne.mpr c47
                   have c47b1 : ((((rd_T35 l0_0 x58_2).f1).extract 0 ((rd_T35 t470 x58_2).f1).size).toList != ((rd_T35 t470 x58_2).f1).toList) = true := bne_iff_ne.mpr c47
                   exact absurd (H.trans (congrArg some hr)) (by simp)
                 ·rw [if_neg c46] at H
                  exact absurd H (by simp)
                ·rw [if_neg c45] at H
                 exact absurd H (by simp)
             ·rw [if_neg c42] at H
              have c42b0 : (((rd_T35 t470 x58_2).f2) == (((rd_T35 t470 x58_2).f1).size : Int)) = false := beq_eq_false_iff_ne.mpr c42
              have c42b1 : (((rd_T35 t470 x58_2).f2) != (((rd_T35 t470 x58_2).f1).size : Int)) = true := bne_iff_ne.mpr c42
              exact absurd (H.trans (congrArg some hr)) (by simp)
            ·rw [if_neg c41] at H
             have c41b0 : (((rd_T35 t470 x58_2).f0).toList == ((rd_T35 l0_0 x58_2).f0).toList) = false := beq_eq_false_iff_ne.mpr c41
             have c41b1 : (((rd_T35 t470 x58_2).f0).toList != ((rd_T35 l0_0 x58_2).f0).toList) = true := bne_iff_ne.mpr c41
             exact absurd (H.trans (congrArg some hr)) (by simp)
           ·rw [if_neg c40] at H
            exact absurd H (by simp)
          ·rw [if_neg c39] at H
           exact absurd H (by simp)
         ·rw [if_neg c38] at H
          exact absurd H (by simp)
        ·rw [if_neg c37] at H
         have c37b0 : decide (x58_2 < (t470.length : Int)) = false := decide_eq_false c37
         clear c37
         replace H := Option.bind_eq_some_iff.mp H
         obtain ⟨⟨t483, t486, t487, t488⟩, A600, H⟩ := H
         replace H : (if t488 = 0 then ((gafferref02_Same.f k2 t470 t473 t474 t483 t486 t487).bind fun t490 => (some t490)) else (some false)) = some r := H
         have A60 := Aside0.mk A600
         clear A600
         by_cases c61 : t488 = 0
         ·rw [if_pos c61] at H
          have c61b0 : (t488 == 0) = true := beq_iff_eq.mpr c61
          have c61b1 : (t488 != 0) = false := bne_eq_false_iff_eq.mpr c61
          clear c61
          replace H := Option.bind_eq_some_iff.mp H
          obtain ⟨t490, A620, H⟩ := H
          replace H : (some t490) = some r := H
          have A62 := Aside0.mk A620
          clear A620
          obtain rfl := Option.some.inj H
          have hnb63 := NB476_468.out
          have hnc63 := NB468_476.out
          obtain ⟨hcz64_0, hcz64_1, hcz64_2, hfz64_0, hfz64_1, hfz64_2⟩ := c3_ BK476
          go_wp2_with (first | (go_at_call 12; (with_reducible refine (disk_Crash.calls k2 _ _ t470 t473 t474 _ _ l2 t483 t486 t487 t488 _ ?side1 ?side2 ?side3 ?side4 A60.out).mono ?_); (case side1 => repeat (first | exact (Kd.R_reads' HO_477000.out).2.2 | (with_reducible refine Kd.C_alloc ?_ _) | (with_reducible refine Kd.C_drewN ?_ _) | (with_reducible refine Kd.C_drew ?_))); (case side2 => exact (Kd.R_reads' HO_477000.out).2.1); (case side3 => repeat (first | exact (Kd.C_below HR2.out HB.out) | (with_reducible refine Kd.C_alloc ?_ _) | (with_reducible refine Kd.C_drewN ?_ _) | (with_reducible refine Kd.C_drew ?_))); (case side4 => exact HC2.out); rintro e w65 ⟨v484, rfl, ho0, hb⟩; have HO485 := Aside0.mk (Kd.R_lower (Kd.R_new' (Kd.R_new' ho0 (Kd.R_lt (by (with_reducible repeat (first | apply Kd.R_alloc | apply Kd.R_drewN | apply Kd.R_drew)); exact HO_56.out))) (Kd.R_lt (by (with_reducible repeat (first | apply Kd.R_alloc | apply Kd.R_drewN | apply Kd.R_drew)); exact HO_477000.out))) (below_size (bl_2 HB GE468 GE476))); replace HO_56 := Aside0.mk (Kd.R_elder' (by (with_reducible repeat (first | apply Kd.R_alloc | apply Kd.R_drewN | apply Kd.R_drew)); exact HO_56.out) (Kd.R_base ho0) hb); replace HO_477000 := Aside0.mk (Kd.R_elder' (by (with_reducible repeat (first | apply Kd.R_alloc | apply Kd.R_drewN | apply Kd.R_drew)); exact HO_477000.out) (Kd.R_base ho0) hb); replace BK468 := Aside0.mk (bb_ BK468 hb); replace BK476 := Aside0.mk (bb_ BK476 hb); replace HB := Aside0.mk (below_step (bl_2 HB GE468 GE476) hb); (try clear hb); (try clear hb2); (try clear hk); (try clear hi); (try clear ho0)) | ((with_reducible refine gate_dst (N := 12) rfl ?_); (try (refine gate_guard (by rfl) ?_; dsimp only)); refine box_event ?hg (N := 12) ?hd (cs := #[.slice none 0 0, .bool false, .int .i64 0]) (t := 24) ?hr ?_; (case hd => rfl); (case hg => rfl); (case hr => first | (go_simp; done) | (go_simp; rfl)); intro gb489 hg w66 hbox hb; replace HO_56 := Aside0.mk (Kd.R_below (by (with_reducible repeat (first | apply Kd.R_alloc | apply Kd.R_drewN | apply Kd.R_drew)); exact HO_56.out) hb); replace HO_477000 := Aside0.mk (Kd.R_below (by (with_reducible repeat (first | apply Kd.R_alloc | apply Kd.R_drewN | apply Kd.R_drew)); exact HO_477000.out) hb); replace HO485 := Aside0.mk (Kd.R_below (by (with_reducible repeat (first | apply Kd.R_alloc | apply Kd.R_drewN | apply Kd.R_drew)); exact HO485.out) hb); have BK489 := Aside0.mk (hbox); have GW489 := Aside0.mk (bs_2 hg HB GE468 GE476); have GE489 := Aside0.mk (bs_2 hg HB GE468 GE476); replace HB := Aside0.mk (below_step (bl_2 HB GE468 GE476) hb); have NB468_489 := Aside0.mk (nb_ hg BK468); have NB489_468 := Aside0.mk (nc_ hg BK468); replace BK468 := Aside0.mk (bb_ BK468 hb); have NB476_489 := Aside0.mk (nb_ hg BK476); have NB489_476 := Aside0.mk (nc_ hg BK476); replace BK476 := Aside0.mk (bb_ BK476 hb); clear hb hbox hg; obtain ⟨Ao67, co67, eo67⟩ := Kd.R_slice HO485.out; subst eo67; have hnb68 := NB489_468.out; have hnc68 := NB468_489.out; have hnb69 := NB489_476.out; have hnc69 := NB476_489.out; obtain ⟨hcz70_0, hcz70_1, hcz70_2, hfz70_0, hfz70_1, hfz70_2⟩ := c3_ BK489; obtain ⟨hcz71_0, hcz71_1, hcz71_2, hfz71_0, hfz71_1, hfz71_2⟩ := c3_ BK476) | (go_at_call 15; (with_reducible refine (gafferref02_Same.calls k2 _ _ t470 t473 t474 _ _ t483 t486 t487 t490 _ ?side1 ?side2 ?side3 ?side4 A62.out).mono ?_); (case side1 => refine (Kd.R_reads' (e := 35) (base := w.heap.size) (ok := fun k_ => (True ∧ some k_ ≠ (.slice Ao67 t483.length co67 : Value).ownBlock)) (n := t470.length) (c := co14) ?_).2.2; exact (by (with_reducible repeat (first | apply Kd.R_alloc | apply Kd.R_drewN | apply Kd.R_drew)); exact (Kd.R_mono (Kd.R_far (p := ⟨gb489, 2, none⟩) (Kd.R_far (p := ⟨gb489, 1, none⟩) (Kd.R_far (p := ⟨gb489, 0, none⟩) (Kd.R_types HO_477000.out BK489.out (by decide)) (fun _ hk => hk.2) (.slice Ao67 t483.length co67)) (fun _ hk => hk.2) (.bool t486)) (fun _ hk => hk.2) (.int .i64 t487)) (fun _ h_ => h_.1)))); (case side2 => exact (Kd.R_reads' HO_477000.out).2.1); (case side3 => refine (Kd.R_reads' (e := 35) (base := w.heap.size) (ok := fun k_ => ((True ∧ some k_ ≠ (.slice Ao14 t470.length co14 : Value).ownBlock) ∧ some k_ ≠ (.slice Ao14 t470.length co14 : Value).ownBlock)) (n := t483.length) (c := co67) ?_).2.2; exact (by (with_reducible repeat (first | apply Kd.R_alloc | apply Kd.R_drewN | apply Kd.R_drew)); exact (Kd.R_mono (Kd.R_far (p := ⟨gb489, 2, none⟩) (Kd.R_far (p := ⟨gb489, 1, none⟩) (Kd.R_far (p := ⟨gb489, 0, none⟩) (Kd.R_types HO485.out BK489.out (by decide)) (fun _ hk => hk.2) (.slice Ao67 t483.length co67)) (fun _ hk => hk.2) (.bool t486)) (fun _ hk => hk.2) (.int .i64 t487)) (fun _ h_ => h_.1)))); (case side4 => exact (Kd.R_reads' HO485.out).2.1); rintro e w72 ⟨rfl, hb⟩; replace HO_56 := Aside0.mk (Kd.R_below (by (with_reducible repeat (first | apply Kd.R_alloc | apply Kd.R_drewN | apply Kd.R_drew)); exact (Kd.R_mono (Kd.R_far (p := ⟨gb489, 2, none⟩) (Kd.R_far (p := ⟨gb489, 1, none⟩) (Kd.R_far (p := ⟨gb489, 0, none⟩) (Kd.R_types HO_56.out BK489.out (by decide)) (fun _ hk => hk.2) (.slice Ao67 t483.length co67)) (fun _ hk => hk.2) (.bool t486)) (fun _ hk => hk.2) (.int .i64 t487)) (fun _ h_ => h_.1))) hb); replace HO_477000 := Aside0.mk (Kd.R_below (by (with_reducible repeat (first | apply Kd.R_alloc | apply Kd.R_drewN | apply Kd.R_drew)); exact (Kd.R_mono (Kd.R_far (p := ⟨gb489, 2, none⟩) (Kd.R_far (p := ⟨gb489, 1, none⟩) (Kd.R_far (p := ⟨gb489, 0, none⟩) (Kd.R_types HO_477000.out BK489.out (by decide)) (fun _ hk => hk.2) (.slice Ao67 t483.length co67)) (fun _ hk => hk.2) (.bool t486)) (fun _ hk => hk.2) (.int .i64 t487)) (fun _ h_ => h_.1))) hb); replace HO485 := Aside0.mk (Kd.R_below (by (with_reducible repeat (first | apply Kd.R_alloc | apply Kd.R_drewN | apply Kd.R_drew)); exact (Kd.R_mono (Kd.R_far (p := ⟨gb489, 2, none⟩) (Kd.R_far (p := ⟨gb489, 1, none⟩) (Kd.R_far (p := ⟨gb489, 0, none⟩) (Kd.R_types HO485.out BK489.out (by decide)) (fun _ hk => hk.2) (.slice Ao67 t483.length co67)) (fun _ hk => hk.2) (.bool t486)) (fun _ hk => hk.2) (.int .i64 t487)) (fun _ h_ => h_.1))) hb); replace BK468 := Aside0.mk (blk_below (g := gb468) (o := .cells #[.slice A0_0 l0_0.length c0_0, .bool a0_1, .int .i64 a0_2] 24 (0, 0)) (bp_1 BK468 NB468_489) hb); replace BK476 := Aside0.mk (blk_below (g := gb476) (o := .cells #[.slice Ao14 t470.length co14, .bool t473, .int .i64 t474] 24 (0, 0)) (bp_1 BK476 NB476_489) hb); replace BK489 := Aside0.mk (blk_below (g := gb489) (o := .cells #[.slice Ao67 t483.length co67, .bool t486, .int .i64 t487] 24 (0, 0)) (bp_0 BK489) hb); replace HB := Aside0.mk (below_step (bl_3 HB GE468 GE476 GE489) hb); (try clear hb); (try clear hb2); (try clear hk); (try clear hi)))
          repeat (go_quiet (first | (go_at_call 12; (with_reducible refine (disk_Crash.calls k2 _ _ t470 t473 t474 _ _ l2 t483 t486 t487 t488 _ ?side1 ?side2 ?side3 ?side4 A60.out).mono ?_); (case side1 => repeat (first | exact (Kd.R_reads' HO_477000.out).2.2 | (with_reducible refine Kd.C_alloc ?_ _) | (with_reducible refine Kd.C_drewN ?_ _) | (with_reducible refine Kd.C_drew ?_))); (case side2 => exact (Kd.R_reads' HO_477000.out).2.1); (case side3 => repeat (first | exact (Kd.C_below HR2.out HB.out) | (with_reducible refine Kd.C_alloc ?_ _) | (with_reducible refine Kd.C_drewN ?_ _) | (with_reducible refine Kd.C_drew ?_))); (case side4 => exact HC2.out); rintro e w65 ⟨v484, rfl, ho0, hb⟩; have HO485 := Aside0.mk (Kd.R_lower (Kd.R_new' (Kd.R_new' ho0 (Kd.R_lt (by (with_reducible repeat (first | apply Kd.R_alloc | apply Kd.R_drewN | apply Kd.R_drew)); exact HO_56.out))) (Kd.R_lt (by (with_reducible repeat (first | apply Kd.R_alloc | apply Kd.R_drewN | apply Kd.R_drew)); exact HO_477000.out))) (below_size (bl_2 HB GE468 GE476))); replace HO_56 := Aside0.mk (Kd.R_elder' (by (with_reducible repeat (first | apply Kd.R_alloc | apply Kd.R_drewN | apply Kd.R_drew)); exact HO_56.out) (Kd.R_base ho0) hb); replace HO_477000 := Aside0.mk (Kd.R_elder' (by (with_reducible repeat (first | apply Kd.R_alloc | apply Kd.R_drewN | apply Kd.R_drew)); exact HO_477000.out) (Kd.R_base ho0) hb); replace BK468 := Aside0.mk (bb_ BK468 hb); replace BK476 := Aside0.mk (bb_ BK476 hb); replace HB := Aside0.mk (below_step (bl_2 HB GE468 GE476) hb); (try clear hb); (try clear hb2); (try clear hk); (try clear hi); (try clear ho0)) | ((with_reducible refine gate_dst (N := 12) rfl ?_); (try (refine gate_guard (by rfl) ?_; dsimp only)); refine box_event ?hg (N := 12) ?hd (cs := #[.slice none 0 0, .bool false, .int .i64 0]) (t := 24) ?hr ?_; (case hd => rfl); (case hg => rfl); (case hr => first | (go_simp; done) | (go_simp; rfl)); intro gb489 hg w66 hbox hb; replace HO_56 := Aside0.mk (Kd.R_below (by (with_reducible repeat (first | apply Kd.R_alloc | apply Kd.R_drewN | apply Kd.R_drew)); exact HO_56.out) hb); replace HO_477000 := Aside0.mk (Kd.R_below (by (with_reducible repeat (first | apply Kd.R_alloc | apply Kd.R_drewN | apply Kd.R_drew)); exact HO_477000.out) hb); replace HO485 := Aside0.mk (Kd.R_below (by (with_reducible repeat (first | apply Kd.R_alloc | apply Kd.R_drewN | apply Kd.R_drew)); exact HO485.out) hb); have BK489 := Aside0.mk (hbox); have GW489 := Aside0.mk (bs_2 hg HB GE468 GE476); have GE489 := Aside0.mk (bs_2 hg HB GE468 GE476); replace HB := Aside0.mk (below_step (bl_2 HB GE468 GE476) hb); have NB468_489 := Aside0.mk (nb_ hg BK468); have NB489_468 := Aside0.mk (nc_ hg BK468); replace BK468 := Aside0.mk (bb_ BK468 hb); have NB476_489 := Aside0.mk (nb_ hg BK476); have NB489_476 := Aside0.mk (nc_ hg BK476); replace BK476 := Aside0.mk (bb_ BK476 hb); clear hb hbox hg; obtain ⟨Ao67, co67, eo67⟩ := Kd.R_slice HO485.out; subst eo67; have hnb68 := NB489_468.out; have hnc68 := NB468_489.out; have hnb69 := NB489_476.out; have hnc69 := NB476_489.out; obtain ⟨hcz70_0, hcz70_1, hcz70_2, hfz70_0, hfz70_1, hfz70_2⟩ := c3_ BK489; obtain ⟨hcz71_0, hcz71_1, hcz71_2, hfz71_0, hfz71_1, hfz71_2⟩ := c3_ BK476) | (go_at_call 15; (with_reducible refine (gafferref02_Same.calls k2 _ _ t470 t473 t474 _ _ t483 t486 t487 t490 _ ?side1 ?side2 ?side3 ?side4 A62.out).mono ?_); (case side1 => refine (Kd.R_reads' (e := 35) (base := w.heap.size) (ok := fun k_ => (True ∧ some k_ ≠ (.slice Ao67 t483.length co67 : Value).ownBlock)) (n := t470.length) (c := co14) ?_).2.2; exact (by (with_reducible repeat (first | apply Kd.R_alloc | apply Kd.R_drewN | apply Kd.R_drew)); exact (Kd.R_mono (Kd.R_far (p := ⟨gb489, 2, none⟩) (Kd.R_far (p := ⟨gb489, 1, none⟩) (Kd.R_far (p := ⟨gb489, 0, none⟩) (Kd.R_types HO_477000.out BK489.out (by decide)) (fun _ hk => hk.2) (.slice Ao67 t483.length co67)) (fun _ hk => hk.2) (.bool t486)) (fun _ hk => hk.2) (.int .i64 t487)) (fun _ h_ => h_.1)))); (case side2 => exact (Kd.R_reads' HO_477000.out).2.1); (case side3 => refine (Kd.R_reads' (e := 35) (base := w.heap.size) (ok := fun k_ => ((True ∧ some k_ ≠ (.slice Ao14 t470.length co14 : Value).ownBlock) ∧ some k_ ≠ (.slice Ao14 t470.length co14 : Value).ownBlock)) (n := t483.length) (c := co67) ?_).2.2; exact (by (with_reducible repeat (first | apply Kd.R_alloc | apply Kd.R_drewN | apply Kd.R_drew)); exact (Kd.R_mono (Kd.R_far (p := ⟨gb489, 2, none⟩) (Kd.R_far (p := ⟨gb489, 1, none⟩) (Kd.R_far (p := ⟨gb489, 0, none⟩) (Kd.R_types HO485.out BK489.out (by decide)) (fun _ hk => hk.2) (.slice Ao67 t483.length co67)) (fun _ hk => hk.2) (.bool t486)) (fun _ hk => hk.2) (.int .i64 t487)) (fun _ h_ => h_.1)))); (case side4 => exact (Kd.R_reads' HO485.out).2.1); rintro e w72 ⟨rfl, hb⟩; replace HO_56 := Aside0.mk (Kd.R_below (by (with_reducible repeat (first | apply Kd.R_alloc | apply Kd.R_drewN | apply Kd.R_drew)); exact (Kd.R_mono (Kd.R_far (p := ⟨gb489, 2, none⟩) (Kd.R_far (p := ⟨gb489, 1, none⟩) (Kd.R_far (p := ⟨gb489, 0, none⟩) (Kd.R_types HO_56.out BK489.out (by decide)) (fun _ hk => hk.2) (.slice Ao67 t483.length co67)) (fun _ hk => hk.2) (.bool t486)) (fun _ hk => hk.2) (.int .i64 t487)) (fun _ h_ => h_.1))) hb); replace HO_477000 := Aside0.mk (Kd.R_below (by (with_reducible repeat (first | apply Kd.R_alloc | apply Kd.R_drewN | apply Kd.R_drew)); exact (Kd.R_mono (Kd.R_far (p := ⟨gb489, 2, none⟩) (Kd.R_far (p := ⟨gb489, 1, none⟩) (Kd.R_far (p := ⟨gb489, 0, none⟩) (Kd.R_types HO_477000.out BK489.out (by decide)) (fun _ hk => hk.2) (.slice Ao67 t483.length co67)) (fun _ hk => hk.2) (.bool t486)) (fun _ hk => hk.2) (.int .i64 t487)) (fun _ h_ => h_.1))) hb); replace HO485 := Aside0.mk (Kd.R_below (by (with_reducible repeat (first | apply Kd.R_alloc | apply Kd.R_drewN | apply Kd.R_drew)); exact (Kd.R_mono (Kd.R_far (p := ⟨gb489, 2, none⟩) (Kd.R_far (p := ⟨gb489, 1, none⟩) (Kd.R_far (p := ⟨gb489, 0, none⟩) (Kd.R_types HO485.out BK489.out (by decide)) (fun _ hk => hk.2) (.slice Ao67 t483.length co67)) (fun _ hk => hk.2) (.bool t486)) (fun _ hk => hk.2) (.int .i64 t487)) (fun _ h_ => h_.1))) hb); replace BK468 := Aside0.mk (blk_below (g := gb468) (o := .cells #[.slice A0_0 l0_0.length c0_0, .bool a0_1, .int .i64 a0_2] 24 (0, 0)) (bp_1 BK468 NB468_489) hb); replace BK476 := Aside0.mk (blk_below (g := gb476) (o := .cells #[.slice Ao14 t470.length co14, .bool t473, .int .i64 t474] 24 (0, 0)) (bp_1 BK476 NB476_489) hb); replace BK489 := Aside0.mk (blk_below (g := gb489) (o := .cells #[.slice Ao67 t483.length co67, .bool t486, .int .i64 t487] 24 (0, 0)) (bp_0 BK489) hb); replace HB := Aside0.mk (below_step (bl_3 HB GE468 GE476 GE489) hb); (try clear hb); (try clear hb2); (try clear hk); (try clear hi))); try go_wp2_with (first | (go_at_call 12; (with_reducible refine (disk_Crash.calls k2 _ _ t470 t473 t474 _ _ l2 t483 t486 t487 t488 _ ?side1 ?side2 ?side3 ?side4 A60.out).mono ?_); (case side1 => repeat (first | exact (Kd.R_reads' HO_477000.out).2.2 | (with_reducible refine Kd.C_alloc ?_ _) | (with_reducible refine Kd.C_drewN ?_ _) | (with_reducible refine Kd.C_drew ?_))); (case side2 => exact (Kd.R_reads' HO_477000.out).2.1); (case side3 => repeat (first | exact (Kd.C_below HR2.out HB.out) | (with_reducible refine Kd.C_alloc ?_ _) | (with_reducible refine Kd.C_drewN ?_ _) | (with_reducible refine Kd.C_drew ?_))); (case side4 => exact HC2.out); rintro e w65 ⟨v484, rfl, ho0, hb⟩; have HO485 := Aside0.mk (Kd.R_lower (Kd.R_new' (Kd.R_new' ho0 (Kd.R_lt (by (with_reducible repeat (first | apply Kd.R_alloc | apply Kd.R_drewN | apply Kd.R_drew)); exact HO_56.out))) (Kd.R_lt (by (with_reducible repeat (first | apply Kd.R_alloc | apply Kd.R_drewN | apply Kd.R_drew)); exact HO_477000.out))) (below_size (bl_2 HB GE468 GE476))); replace HO_56 := Aside0.mk (Kd.R_elder' (by (with_reducible repeat (first | apply Kd.R_alloc | apply Kd.R_drewN | apply Kd.R_drew)); exact HO_56.out) (Kd.R_base ho0) hb); replace HO_477000 := Aside0.mk (Kd.R_elder' (by (with_reducible repeat (first | apply Kd.R_alloc | apply Kd.R_drewN | apply Kd.R_drew)); exact HO_477000.out) (Kd.R_base ho0) hb); replace BK468 := Aside0.mk (bb_ BK468 hb); replace BK476 := Aside0.mk (bb_ BK476 hb); replace HB := Aside0.mk (below_step (bl_2 HB GE468 GE476) hb); (try clear hb); (try clear hb2); (try clear hk); (try clear hi); (try clear ho0)) | ((with_reducible refine gate_dst (N := 12) rfl ?_); (try (refine gate_guard (by rfl) ?_; dsimp only)); refine box_event ?hg (N := 12) ?hd (cs := #[.slice none 0 0, .bool false, .int .i64 0]) (t := 24) ?hr ?_; (case hd => rfl); (case hg => rfl); (case hr => first | (go_simp; done) | (go_simp; rfl)); intro gb489 hg w66 hbox hb; replace HO_56 := Aside0.mk (Kd.R_below (by (with_reducible repeat (first | apply Kd.R_alloc | apply Kd.R_drewN | apply Kd.R_drew)); exact HO_56.out) hb); replace HO_477000 := Aside0.mk (Kd.R_below (by (with_reducible repeat (first | apply Kd.R_alloc | apply Kd.R_drewN | apply Kd.R_drew)); exact HO_477000.out) hb); replace HO485 := Aside0.mk (Kd.R_below (by (with_reducible repeat (first | apply Kd.R_alloc | apply Kd.R_drewN | apply Kd.R_drew)); exact HO485.out) hb); have BK489 := Aside0.mk (hbox); have GW489 := Aside0.mk (bs_2 hg HB GE468 GE476); have GE489 := Aside0.mk (bs_2 hg HB GE468 GE476); replace HB := Aside0.mk (below_step (bl_2 HB GE468 GE476) hb); have NB468_489 := Aside0.mk (nb_ hg BK468); have NB489_468 := Aside0.mk (nc_ hg BK468); replace BK468 := Aside0.mk (bb_ BK468 hb); have NB476_489 := Aside0.mk (nb_ hg BK476); have NB489_476 := Aside0.mk (nc_ hg BK476); replace BK476 := Aside0.mk (bb_ BK476 hb); clear hb hbox hg; obtain ⟨Ao67, co67, eo67⟩ := Kd.R_slice HO485.out; subst eo67; have hnb68 := NB489_468.out; have hnc68 := NB468_489.out; have hnb69 := NB489_476.out; have hnc69 := NB476_489.out; obtain ⟨hcz70_0, hcz70_1, hcz70_2, hfz70_0, hfz70_1, hfz70_2⟩ := c3_ BK489; obtain ⟨hcz71_0, hcz71_1, hcz71_2, hfz71_0, hfz71_1, hfz71_2⟩ := c3_ BK476) | (go_at_call 15; (with_reducible refine (gafferref02_Same.calls k2 _ _ t470 t473 t474 _ _ t483 t486 t487 t490 _ ?side1 ?side2 ?side3 ?side4 A62.out).mono ?_); (case side1 => refine (Kd.R_reads' (e := 35) (base := w.heap.size) (ok := fun k_ => (True ∧ some k_ ≠ (.slice Ao67 t483.length co67 : Value).ownBlock)) (n := t470.length) (c := co14) ?_).2.2; exact (by (with_reducible repeat (first | apply Kd.R_alloc | apply Kd.R_drewN | apply Kd.R_drew)); exact (Kd.R_mono (Kd.R_far (p := ⟨gb489, 2, none⟩) (Kd.R_far (p := ⟨gb489, 1, none⟩) (Kd.R_far (p := ⟨gb489, 0, none⟩) (Kd.R_types HO_477000.out BK489.out (by decide)) (fun _ hk => hk.2) (.slice Ao67 t483.length co67)) (fun _ hk => hk.2) (.bool t486)) (fun _ hk => hk.2) (.int .i64 t487)) (fun _ h_ => h_.1)))); (case side2 => exact (Kd.R_reads' HO_477000.out).2.1); (case side3 => refine (Kd.R_reads' (e := 35) (base := w.heap.size) (ok := fun k_ => ((True ∧ some k_ ≠ (.slice Ao14 t470.length co14 : Value).ownBlock) ∧ some k_ ≠ (.slice Ao14 t470.length co14 : Value).ownBlock)) (n := t483.length) (c := co67) ?_).2.2; exact (by (with_reducible repeat (first | apply Kd.R_alloc | apply Kd.R_drewN | apply Kd.R_drew)); exact (Kd.R_mono (Kd.R_far (p := ⟨gb489, 2, none⟩) (Kd.R_far (p := ⟨gb489, 1, none⟩) (Kd.R_far (p := ⟨gb489, 0, none⟩) (Kd.R_types HO485.out BK489.out (by decide)) (fun _ hk => hk.2) (.slice Ao67 t483.length co67)) (fun _ hk => hk.2) (.bool t486)) (fun _ hk => hk.2) (.int .i64 t487)) (fun _ h_ => h_.1)))); (case side4 => exact (Kd.R_reads' HO485.out).2.1); rintro e w72 ⟨rfl, hb⟩; replace HO_56 := Aside0.mk (Kd.R_below (by (with_reducible repeat (first | apply Kd.R_alloc | apply Kd.R_drewN | apply Kd.R_drew)); exact (Kd.R_mono (Kd.R_far (p := ⟨gb489, 2, none⟩) (Kd.R_far (p := ⟨gb489, 1, none⟩) (Kd.R_far (p := ⟨gb489, 0, none⟩) (Kd.R_types HO_56.out BK489.out (by decide)) (fun _ hk => hk.2) (.slice Ao67 t483.length co67)) (fun _ hk => hk.2) (.bool t486)) (fun _ hk => hk.2) (.int .i64 t487)) (fun _ h_ => h_.1))) hb); replace HO_477000 := Aside0.mk (Kd.R_below (by (with_reducible repeat (first | apply Kd.R_alloc | apply Kd.R_drewN | apply Kd.R_drew)); exact (Kd.R_mono (Kd.R_far (p := ⟨gb489, 2, none⟩) (Kd.R_far (p := ⟨gb489, 1, none⟩) (Kd.R_far (p := ⟨gb489, 0, none⟩) (Kd.R_types HO_477000.out BK489.out (by decide)) (fun _ hk => hk.2) (.slice Ao67 t483.length co67)) (fun _ hk => hk.2) (.bool t486)) (fun _ hk => hk.2) (.int .i64 t487)) (fun _ h_ => h_.1))) hb); replace HO485 := Aside0.mk (Kd.R_below (by (with_reducible repeat (first | apply Kd.R_alloc | apply Kd.R_drewN | apply Kd.R_drew)); exact (Kd.R_mono (Kd.R_far (p := ⟨gb489, 2, none⟩) (Kd.R_far (p := ⟨gb489, 1, none⟩) (Kd.R_far (p := ⟨gb489, 0, none⟩) (Kd.R_types HO485.out BK489.out (by decide)) (fun _ hk => hk.2) (.slice Ao67 t483.length co67)) (fun _ hk => hk.2) (.bool t486)) (fun _ hk => hk.2) (.int .i64 t487)) (fun _ h_ => h_.1))) hb); replace BK468 := Aside0.mk (blk_below (g := gb468) (o := .cells #[.slice A0_0 l0_0.length c0_0, .bool a0_1, .int .i64 a0_2] 24 (0, 0)) (bp_1 BK468 NB468_489) hb); replace BK476 := Aside0.mk (blk_below (g := gb476) (o := .cells #[.slice Ao14 t470.length co14, .bool t473, .int .i64 t474] 24 (0, 0)) (bp_1 BK476 NB476_489) hb); replace BK489 := Aside0.mk (blk_below (g := gb489) (o := .cells #[.slice Ao67 t483.length co67, .bool t486, .int .i64 t487] 24 (0, 0)) (bp_0 BK489) hb); replace HB := Aside0.mk (below_step (bl_3 HB GE468 GE476 GE489) hb); (try clear hb); (try clear hb2); (try clear hk); (try clear hi))))
          go_ret
          exact ⟨by first | rfl | (simp; done) | (simp [*]; done), bl_3 HB GE468 GE476 GE489⟩
         ·rw [if_neg c61] at H
          have c61b0 : (t488 == 0) = false := beq_eq_false_iff_ne.mpr c61
          have c61b1 : (t488 != 0) = true := bne_iff_ne.mpr c61
          exact absurd (H.trans (congrArg some hr)) (by simp)
  ·rw [if_neg c7] at H
   have c7b0 : (t475 == 0) = false := beq_eq_false_iff_ne.mpr c7
   have c7b1 : (t475 != 0) = true := bne_iff_ne.mpr c7
   by_cases c73 : (t470.length : Int) = 0
   ·rw [if_pos c73] at H
    have c73b0 : ((t470.length : Int) == 0) = true := beq_iff_eq.mpr c73
    have c73b1 : ((t470.length : Int) != 0) = false := bne_eq_false_iff_eq.mpr c73
    clear c73
    replace H := Option.bind_eq_some_iff.mp H
    obtain ⟨t477, A740, H⟩ := H
    replace H : (some (t477 == t475)) = some r := H
    have A74 := Aside0.mk A740
    clear A740
    obtain rfl := Option.some.inj H
    go_enter Try.func4, Try.ntmps4
    go_wp2_with (first | ((with_reducible refine gate_dst (N := 3) rfl ?_); (try (refine gate_guard (by rfl) ?_; dsimp only)); refine box_event ?hg (N := 3) ?hd (cs := #[.slice A0_0 l0_0.length c0_0, .bool a0_1, .int .i64 a0_2]) (t := 24) ?hr ?_; (case hd => rfl); (case hg => rfl); (case hr => first | (go_simp; done) | (go_simp; rfl)); intro gb468 hg w75 hbox hb; have BK468 := Aside0.mk (hbox); have GW468 := Aside0.mk (bs_0 hg HB); have GE468 := Aside0.mk (bs_0 hg HB); replace HB := Aside0.mk (below_step (bl_ HB) hb); clear hb hbox hg) | (go_at_call 14; (with_reducible refine (gafferlaw02_lives.calls k  true _ A4.out).mono ?_); rintro e w76 ⟨rfl, hb⟩; replace BK468 := Aside0.mk (bb_ BK468 hb); replace HB := Aside0.mk (below_step (bl_1 HB GE468) hb); (try clear hb); (try clear hb2); (try clear hk); (try clear hi); obtain ⟨hcz77_0, hcz77_1, hcz77_2, hfz77_0, hfz77_1, hfz77_2⟩ := c3_ BK468) | (go_at_call 12; (with_reducible refine (disk_Crash.calls k _ _ l0_0 a0_1 a0_2 _ _ l1 t470 t473 t474 t475 _ ?side1 ?side2 ?side3 ?side4 A6.out).mono ?_); (case side1 => repeat (first | exact (Kd.C_below HR0_0.out HB.out) | (with_reducible refine Kd.C_alloc ?_ _) | (with_reducible refine Kd.C_drewN ?_ _) | (with_reducible refine Kd.C_drew ?_))); (case side2 => exact HC0_0.out); (case side3 => repeat (first | exact (Kd.C_below HR1.out HB.out) | (with_reducible refine Kd.C_alloc ?_ _) | (with_reducible refine Kd.C_drewN ?_ _) | (with_reducible refine Kd.C_drew ?_))); (case side4 => exact HC1.out); rintro e w78 ⟨v471, rfl, ho0, hb⟩; have HO472 := Aside0.mk (Kd.R_lower ho0 (below_size (bl_1 HB GE468))); replace BK468 := Aside0.mk (bb_ BK468 hb); replace HB := Aside0.mk (below_step (bl_1 HB GE468) hb); (try clear hb); (try clear hb2); (try clear hk); (try clear hi); (try clear ho0)) | ((with_reducible refine gate_dst (N := 7) rfl ?_); (try (refine gate_guard (by rfl) ?_; dsimp only)); refine box_event ?hg (N := 7) ?hd (cs := #[.slice none 0 0, .bool false, .int .i64 0]) (t := 24) ?hr ?_; (case hd => rfl); (case hg => rfl); (case hr => first | (go_simp; done) | (go_simp; rfl)); intro gb476 hg w79 hbox hb; replace HO472 := Aside0.mk (Kd.R_below (by (with_reducible repeat (first | apply Kd.R_alloc | apply Kd.R_drewN | apply Kd.R_drew)); exact HO472.out) hb); have BK476 := Aside0.mk (hbox); have GW476 := Aside0.mk (bs_1 hg HB GE468); have GE476 := Aside0.mk (bs_1 hg HB GE468); replace HB := Aside0.mk (below_step (bl_1 HB GE468) hb); have NB468_476 := Aside0.mk (nb_ hg BK468); have NB476_468 := Aside0.mk (nc_ hg BK468); replace BK468 := Aside0.mk (bb_ BK468 hb); clear hb hbox hg; obtain ⟨Ao80, co80, eo80⟩ := Kd.R_slice HO472.out; subst eo80; have hnb81 := NB476_468.out; have hnc81 := NB468_476.out; obtain ⟨hcz82_0, hcz82_1, hcz82_2, hfz82_0, hfz82_1, hfz82_2⟩ := c3_ BK476; obtain ⟨hcz83_0, hcz83_1, hcz83_2, hfz83_0, hfz83_1, hfz83_2⟩ := c3_ BK468) | (go_at_call 16; (with_reducible refine (disk_Check.calls k _ _ l0_0 a0_1 a0_2 t477 _ ?side1 ?side2 A74.out).mono ?_); (case side1 => exact Kd.C_below HR0_0.out (bl_2 HB GE468 GE476)); (case side2 => exact HC0_0.out); rintro e w84 ⟨rfl, hb⟩; replace HO472 := Aside0.mk (Kd.R_below (by (with_reducible repeat (first | apply Kd.R_alloc | apply Kd.R_drewN | apply Kd.R_drew)); exact (Kd.R_mono (Kd.R_far (p := ⟨gb476, 2, none⟩) (Kd.R_far (p := ⟨gb476, 1, none⟩) (Kd.R_far (p := ⟨gb476, 0, none⟩) (Kd.R_types HO472.out BK476.out (by decide)) (fun _ hk => hk.2) (.slice Ao80 t470.length co80)) (fun _ hk => hk.2) (.bool t473)) (fun _ hk => hk.2) (.int .i64 t474)) (fun _ h_ => h_.1))) hb); replace BK468 := Aside0.mk (blk_below (g := gb468) (o := .cells #[.slice A0_0 l0_0.length c0_0, .bool a0_1, .int .i64 a0_2] 24 (0, 0)) (bp_1 BK468 NB468_476) hb); replace BK476 := Aside0.mk (blk_below (g := gb476) (o := .cells #[.slice Ao80 t470.length co80, .bool t473, .int .i64 t474] 24 (0, 0)) (bp_0 BK476) hb); replace HB := Aside0.mk (below_step (bl_2 HB GE468 GE476) hb); (try clear hb); (try clear hb2); (try clear hk); (try clear hi)))
    repeat (go_quiet (first | ((with_reducible refine gate_dst (N := 3) rfl ?_); (try (refine gate_guard (by rfl) ?_; dsimp only)); refine box_event ?hg (N := 3) ?hd (cs := #[.slice A0_0 l0_0.length c0_0, .bool a0_1, .int .i64 a0_2]) (t := 24) ?hr ?_; (case hd => rfl); (case hg => rfl); (case hr => first | (go_simp; done) | (go_simp; rfl)); intro gb468 hg w75 hbox hb; have BK468 := Aside0.mk (hbox); have GW468 := Aside0.mk (bs_0 hg HB); have GE468 := Aside0.mk (bs_0 hg HB); replace HB := Aside0.mk (below_step (bl_ HB) hb); clear hb hbox hg) | (go_at_call 14; (with_reducible refine (gafferlaw02_lives.calls k  true _ A4.out).mono ?_); rintro e w76 ⟨rfl, hb⟩; replace BK468 := Aside0.mk (bb_ BK468 hb); replace HB := Aside0.mk (below_step (bl_1 HB GE468) hb); (try clear hb); (try clear hb2); (try clear hk); (try clear hi); obtain ⟨hcz77_0, hcz77_1, hcz77_2, hfz77_0, hfz77_1, hfz77_2⟩ := c3_ BK468) | (go_at_call 12; (with_reducible refine (disk_Crash.calls k _ _ l0_0 a0_1 a0_2 _ _ l1 t470 t473 t474 t475 _ ?side1 ?side2 ?side3 ?side4 A6.out).mono ?_); (case side1 => repeat (first | exact (Kd.C_below HR0_0.out HB.out) | (with_reducible refine Kd.C_alloc ?_ _) | (with_reducible refine Kd.C_drewN ?_ _) | (with_reducible refine Kd.C_drew ?_))); (case side2 => exact HC0_0.out); (case side3 => repeat (first | exact (Kd.C_below HR1.out HB.out) | (with_reducible refine Kd.C_alloc ?_ _) | (with_reducible refine Kd.C_drewN ?_ _) | (with_reducible refine Kd.C_drew ?_))); (case side4 => exact HC1.out); rintro e w78 ⟨v471, rfl, ho0, hb⟩; have HO472 := Aside0.mk (Kd.R_lower ho0 (below_size (bl_1 HB GE468))); replace BK468 := Aside0.mk (bb_ BK468 hb); replace HB := Aside0.mk (below_step (bl_1 HB GE468) hb); (try clear hb); (try clear hb2); (try clear hk); (try clear hi); (try clear ho0)) | ((with_reducible refine gate_dst (N := 7) rfl ?_); (try (refine gate_guard (by rfl) ?_; dsimp only)); refine box_event ?hg (N := 7) ?hd (cs := #[.slice none 0 0, .bool false, .int .i64 0]) (t := 24) ?hr ?_; (case hd => rfl); (case hg => rfl); (case hr => first | (go_simp; done) | (go_simp; rfl)); intro gb476 hg w79 hbox hb; replace HO472 := Aside0.mk (Kd.R_below (by (with_reducible repeat (first | apply Kd.R_alloc | apply Kd.R_drewN | apply Kd.R_drew)); exact HO472.out) hb); have BK476 := Aside0.mk (hbox); have GW476 := Aside0.mk (bs_1 hg HB GE468); have GE476 := Aside0.mk (bs_1 hg HB GE468); replace HB := Aside0.mk (below_step (bl_1 HB GE468) hb); have NB468_476 := Aside0.mk (nb_ hg BK468); have NB476_468 := Aside0.mk (nc_ hg BK468); replace BK468 := Aside0.mk (bb_ BK468 hb); clear hb hbox hg; obtain ⟨Ao80, co80, eo80⟩ := Kd.R_slice HO472.out; subst eo80; have hnb81 := NB476_468.out; have hnc81 := NB468_476.out; obtain ⟨hcz82_0, hcz82_1, hcz82_2, hfz82_0, hfz82_1, hfz82_2⟩ := c3_ BK476; obtain ⟨hcz83_0, hcz83_1, hcz83_2, hfz83_0, hfz83_1, hfz83_2⟩ := c3_ BK468) | (go_at_call 16; (with_reducible refine (disk_Check.calls k _ _ l0_0 a0_1 a0_2 t477 _ ?side1 ?side2 A74.out).mono ?_); (case side1 => exact Kd.C_below HR0_0.out (bl_2 HB GE468 GE476)); (case side2 => exact HC0_0.out); rintro e w84 ⟨rfl, hb⟩; replace HO472 := Aside0.mk (Kd.R_below (by (with_reducible repeat (first | apply Kd.R_alloc | apply Kd.R_drewN | apply Kd.R_drew)); exact (Kd.R_mono (Kd.R_far (p := ⟨gb476, 2, none⟩) (Kd.R_far (p := ⟨gb476, 1, none⟩) (Kd.R_far (p := ⟨gb476, 0, none⟩) (Kd.R_types HO472.out BK476.out (by decide)) (fun _ hk => hk.2) (.slice Ao80 t470.length co80)) (fun _ hk => hk.2) (.bool t473)) (fun _ hk => hk.2) (.int .i64 t474)) (fun _ h_ => h_.1))) hb); replace BK468 := Aside0.mk (blk_below (g := gb468) (o := .cells #[.slice A0_0 l0_0.length c0_0, .bool a0_1, .int .i64 a0_2] 24 (0, 0)) (bp_1 BK468 NB468_476) hb); replace BK476 := Aside0.mk (blk_below (g := gb476) (o := .cells #[.slice Ao80 t470.length co80, .bool t473, .int .i64 t474] 24 (0, 0)) (bp_0 BK476) hb); replace HB := Aside0.mk (below_step (bl_2 HB GE468 GE476) hb); (try clear hb); (try clear hb2); (try clear hk); (try clear hi))); try go_wp2_with (first | ((with_reducible refine gate_dst (N := 3) rfl ?_); (try (refine gate_guard (by rfl) ?_; dsimp only)); refine box_event ?hg (N := 3) ?hd (cs := #[.slice A0_0 l0_0.length c0_0, .bool a0_1, .int .i64 a0_2]) (t := 24) ?hr ?_; (case hd => rfl); (case hg => rfl); (case hr => first | (go_simp; done) | (go_simp; rfl)); intro gb468 hg w75 hbox hb; have BK468 := Aside0.mk (hbox); have GW468 := Aside0.mk (bs_0 hg HB); have GE468 := Aside0.mk (bs_0 hg HB); replace HB := Aside0.mk (below_step (bl_ HB) hb); clear hb hbox hg) | (go_at_call 14; (with_reducible refine (gafferlaw02_lives.calls k  true _ A4.out).mono ?_); rintro e w76 ⟨rfl, hb⟩; replace BK468 := Aside0.mk (bb_ BK468 hb); replace HB := Aside0.mk (below_step (bl_1 HB GE468) hb); (try clear hb); (try clear hb2); (try clear hk); (try clear hi); obtain ⟨hcz77_0, hcz77_1, hcz77_2, hfz77_0, hfz77_1, hfz77_2⟩ := c3_ BK468) | (go_at_call 12; (with_reducible refine (disk_Crash.calls k _ _ l0_0 a0_1 a0_2 _ _ l1 t470 t473 t474 t475 _ ?side1 ?side2 ?side3 ?side4 A6.out).mono ?_); (case side1 => repeat (first | exact (Kd.C_below HR0_0.out HB.out) | (with_reducible refine Kd.C_alloc ?_ _) | (with_reducible refine Kd.C_drewN ?_ _) | (with_reducible refine Kd.C_drew ?_))); (case side2 => exact HC0_0.out); (case side3 => repeat (first | exact (Kd.C_below HR1.out HB.out) | (with_reducible refine Kd.C_alloc ?_ _) | (with_reducible refine Kd.C_drewN ?_ _) | (with_reducible refine Kd.C_drew ?_))); (case side4 => exact HC1.out); rintro e w78 ⟨v471, rfl, ho0, hb⟩; have HO472 := Aside0.mk (Kd.R_lower ho0 (below_size (bl_1 HB GE468))); replace BK468 := Aside0.mk (bb_ BK468 hb); replace HB := Aside0.mk (below_step (bl_1 HB GE468) hb); (try clear hb); (try clear hb2); (try clear hk); (try clear hi); (try clear ho0)) | ((with_reducible refine gate_dst (N := 7) rfl ?_); (try (refine gate_guard (by rfl) ?_; dsimp only)); refine box_event ?hg (N := 7) ?hd (cs := #[.slice none 0 0, .bool false, .int .i64 0]) (t := 24) ?hr ?_; (case hd => rfl); (case hg => rfl); (case hr => first | (go_simp; done) | (go_simp; rfl)); intro gb476 hg w79 hbox hb; replace HO472 := Aside0.mk (Kd.R_below (by (with_reducible repeat (first | apply Kd.R_alloc | apply Kd.R_drewN | apply Kd.R_drew)); exact HO472.out) hb); have BK476 := Aside0.mk (hbox); have GW476 := Aside0.mk (bs_1 hg HB GE468); have GE476 := Aside0.mk (bs_1 hg HB GE468); replace HB := Aside0.mk (below_step (bl_1 HB GE468) hb); have NB468_476 := Aside0.mk (nb_ hg BK468); have NB476_468 := Aside0.mk (nc_ hg BK468); replace BK468 := Aside0.mk (bb_ BK468 hb); clear hb hbox hg; obtain ⟨Ao80, co80, eo80⟩ := Kd.R_slice HO472.out; subst eo80; have hnb81 := NB476_468.out; have hnc81 := NB468_476.out; obtain ⟨hcz82_0, hcz82_1, hcz82_2, hfz82_0, hfz82_1, hfz82_2⟩ := c3_ BK476; obtain ⟨hcz83_0, hcz83_1, hcz83_2, hfz83_0, hfz83_1, hfz83_2⟩ := c3_ BK468) | (go_at_call 16; (with_reducible refine (disk_Check.calls k _ _ l0_0 a0_1 a0_2 t477 _ ?side1 ?side2 A74.out).mono ?_); (case side1 => exact Kd.C_below HR0_0.out (bl_2 HB GE468 GE476)); (case side2 => exact HC0_0.out); rintro e w84 ⟨rfl, hb⟩; replace HO472 := Aside0.mk (Kd.R_below (by (with_reducible repeat (first | apply Kd.R_alloc | apply Kd.R_drewN | apply Kd.R_drew)); exact (Kd.R_mono (Kd.R_far (p := ⟨gb476, 2, none⟩) (Kd.R_far (p := ⟨gb476, 1, none⟩) (Kd.R_far (p := ⟨gb476, 0, none⟩) (Kd.R_types HO472.out BK476.out (by decide)) (fun _ hk => hk.2) (.slice Ao80 t470.length co80)) (fun _ hk => hk.2) (.bool t473)) (fun _ hk => hk.2) (.int .i64 t474)) (fun _ h_ => h_.1))) hb); replace BK468 := Aside0.mk (blk_below (g := gb468) (o := .cells #[.slice A0_0 l0_0.length c0_0, .bool a0_1, .int .i64 a0_2] 24 (0, 0)) (bp_1 BK468 NB468_476) hb); replace BK476 := Aside0.mk (blk_below (g := gb476) (o := .cells #[.slice Ao80 t470.length co80, .bool t473, .int .i64 t474] 24 (0, 0)) (bp_0 BK476) hb); replace HB := Aside0.mk (below_step (bl_2 HB GE468 GE476) hb); (try clear hb); (try clear hb2); (try clear hk); (try clear hi))))
    go_ret
    exact ⟨by first | rfl | (simp; done) | (simp [*]; done), bl_2 HB GE468 GE476⟩
   ·rw [if_neg c73] at H
    have c73b0 : ((t470.length : Int) == 0) = false := beq_eq_false_iff_ne.mpr c73
    have c73b1 : ((t470.length : Int) != 0) = true := bne_iff_ne.mpr c73
    have c73b2 : ¬ (t470 = []) := fun h_ => c73 (by rw [h_]; rfl)
    exact absurd (H.trans (congrArg some hr)) (by simp)
 ·replace c5 := Bool.eq_false_iff.mpr c5
  subst c5
  have H1 : (some false) = some r := by rw [if_neg (show ¬ (false = true) by decide)] at H; exact H
  clear H
  have H := H1
  clear H1
  exact absurd (H.trans (congrArg some hr)) (by simp)

/-- THE ONE PURE STATEMENT of gafferlaw02_DiskSafe: yours. -/
def gafferlaw02_DiskSafe.Pure : Prop := ∀ (x0 : S24) (x1 : List Int) (x2 : List Int), ok24 x0 → (okSl 8 (okInt .i64)) x1 → (okSl 8 (okInt .i64)) x2 → ∃ k, gafferlaw02_DiskSafe.f k x0.f0 x0.f1 x0.f2 x1 x2 = some true

/-! ### gafferlaw02_DiskSwapped: function 6 -/
def gafferlaw02_DiskSwapped.f (k : Nat) (l0_0 : List (S35)) (a0_1 : Bool) (a0_2 : Int) (a1 : ByteArray) (a2 : ByteArray) : Option (Bool) := (gafferlaw02_lives.f k).bind fun t492 => (if t492 = true then ((disk_Read.f k l0_0 a0_1 a0_2 a1).bind fun bt493 => ((disk_Swap.f k l0_0 a0_1 a0_2 a1 a2).bind fun bt495 => (if bt495.2.2.2 = 0 then ((disk_Read.f k bt495.1 bt495.2.1 bt495.2.2.1 a2).bind fun bt502 => ((disk_Read.f k bt495.1 bt495.2.1 bt495.2.2.1 a1).bind fun bt504 => (if bt493.2 = 0 then (if bt502.2 = 0 then (if bt502.1.toList = bt493.1.toList then (if a1.toList = a2.toList then (if bt504.2 = 0 then ((disk_Check.f k bt495.1 bt495.2.1 bt495.2.2.1).bind fun t506 => (some (t506 == 0))) else (some false)) else (if bt504.2 = 6 then ((disk_Check.f k bt495.1 bt495.2.1 bt495.2.2.1).bind fun t507 => (some (t507 == 0))) else (some false))) else (some false)) else (some false)) else (some false)))) else (some true)))) else (some false))
theorem gafferlaw02_DiskSwapped.mono : ∀ a0 a1 a2 a3 a4 k, LeO (gafferlaw02_DiskSwapped.f k a0 a1 a2 a3 a4) (gafferlaw02_DiskSwapped.f (k + 1) a0 a1 a2 a3 a4) := by
 intro a0 a1 a2 a3 a4 k
 unfold gafferlaw02_DiskSwapped.f
 repeat' first
   | (with_reducible exact disk_Check.mono _ _ _ _)
   | (with_reducible exact disk_Read.mono _ _ _ _ _)
   | (with_reducible exact disk_Swap.mono _ _ _ _ _ _)
   | (with_reducible exact gafferlaw02_lives.mono _)
   | (with_reducible exact LeO.refl _)
   | (with_reducible exact LeO.none _)
   | (with_reducible refine LeO.ite ?_ ?_)
   | (with_reducible refine LeO.bind ?_ (fun _ => ?_))
   | exact disk_Check.mono _ _ _ _
   | exact disk_Read.mono _ _ _ _ _
   | exact disk_Swap.mono _ _ _ _ _ _
   | exact gafferlaw02_lives.mono _
   | exact LeO.none _
   | refine LeO.ite ?_ ?_
   | refine LeO.bind ?_ (fun _ => ?_)
set_option maxHeartbeats 80000000 in
set_option maxRecDepth 100000 in
theorem gafferlaw02_DiskSwapped.calls (k : Nat) (A0_0 : Option Addr) (c0_0 : Nat) (l0_0 : List (S35)) (a0_1 : Bool) (a0_2 : Int) (a1 : ByteArray) (a2 : ByteArray) (r : Bool) (w : World) (hr0_0 : Kd.C k35 w A0_0 l0_0.length l0_0) (hc0_0 : l0_0.length ≤ c0_0) (h : gafferlaw02_DiskSwapped.f k l0_0 a0_1 a0_2 a1 a2 = some r) (hr : r = true) :
  Calls Try.prog 6 #[.agg #[.slice A0_0 l0_0.length c0_0, .bool a0_1, .int .i64 a0_2], .string a1, .string a2] w fun e w' => e = .returned (.bool r) ∧ Below w.heap.size w w' := by
 have hu24 := Try.underlying24
 have HR0_0 := Aside0.mk hr0_0
 have HC0_0 := Aside0.mk hc0_0
 clear hr0_0 hc0_0
 have HB := Aside0.mk (Below.refl w.heap.size w)
 have H : ((gafferlaw02_lives.f k).bind fun t492 => (if t492 = true then ((disk_Read.f k l0_0 a0_1 a0_2 a1).bind fun bt493 => ((disk_Swap.f k l0_0 a0_1 a0_2 a1 a2).bind fun bt495 => (if bt495.2.2.2 = 0 then ((disk_Read.f k bt495.1 bt495.2.1 bt495.2.2.1 a2).bind fun bt502 => ((disk_Read.f k bt495.1 bt495.2.1 bt495.2.2.1 a1).bind fun bt504 => (if bt493.2 = 0 then (if bt502.2 = 0 then (if bt502.1.toList = bt493.1.toList then (if a1.toList = a2.toList then (if bt504.2 = 0 then ((disk_Check.f k bt495.1 bt495.2.1 bt495.2.2.1).bind fun t506 => (some (t506 == 0))) else (some false)) else (if bt504.2 = 6 then ((disk_Check.f k bt495.1 bt495.2.1 bt495.2.2.1).bind fun t507 => (some (t507 == 0))) else (some false))) else (some false)) else (some false)) else (some false)))) else (some true)))) else (some false))) = some r := h
 clear h
 replace H := Option.bind_eq_some_iff.mp H
 obtain ⟨t492, A40, H⟩ := H
 replace H : (if t492 = true then ((disk_Read.f k l0_0 a0_1 a0_2 a1).bind fun bt493 => ((disk_Swap.f k l0_0 a0_1 a0_2 a1 a2).bind fun bt495 => (if bt495.2.2.2 = 0 then ((disk_Read.f k bt495.1 bt495.2.1 bt495.2.2.1 a2).bind fun bt502 => ((disk_Read.f k bt495.1 bt495.2.1 bt495.2.2.1 a1).bind fun bt504 => (if bt493.2 = 0 then (if bt502.2 = 0 then (if bt502.1.toList = bt493.1.toList then (if a1.toList = a2.toList then (if bt504.2 = 0 then ((disk_Check.f k bt495.1 bt495.2.1 bt495.2.2.1).bind fun t506 => (some (t506 == 0))) else (some false)) else (if bt504.2 = 6 then ((disk_Check.f k bt495.1 bt495.2.1 bt495.2.2.1).bind fun t507 => (some (t507 == 0))) else (some false))) else (some false)) else (some false)) else (some false)))) else (some true)))) else (some false)) = some r := H
 have A4 := Aside0.mk A40
 clear A40
 by_cases c5 : t492 = true
 ·subst c5
  have H1 : ((disk_Read.f k l0_0 a0_1 a0_2 a1).bind fun bt493 => ((disk_Swap.f k l0_0 a0_1 a0_2 a1 a2).bind fun bt495 => (if bt495.2.2.2 = 0 then ((disk_Read.f k bt495.1 bt495.2.1 bt495.2.2.1 a2).bind fun bt502 => ((disk_Read.f k bt495.1 bt495.2.1 bt495.2.2.1 a1).bind fun bt504 => (if bt493.2 = 0 then (if bt502.2 = 0 then (if bt502.1.toList = bt493.1.toList then (if a1.toList = a2.toList then (if bt504.2 = 0 then ((disk_Check.f k bt495.1 bt495.2.1 bt495.2.2.1).bind fun t506 => (some (t506 == 0))) else (some false)) else (if bt504.2 = 6 then ((disk_Check.f k bt495.1 bt495.2.1 bt495.2.2.1).bind fun t507 => (some (t507 == 0))) else (some false))) else (some false)) else (some false)) else (some false)))) else (some true)))) = some r := by rw [if_pos rfl] at H; exact H
  clear H
  have H := H1
  clear H1
  replace H := Option.bind_eq_some_iff.mp H
  obtain ⟨⟨t493, t494⟩, A60, H⟩ := H
  replace H : ((disk_Swap.f k l0_0 a0_1 a0_2 a1 a2).bind fun bt495 => (if bt495.2.2.2 = 0 then ((disk_Read.f k bt495.1 bt495.2.1 bt495.2.2.1 a2).bind fun bt502 => ((disk_Read.f k bt495.1 bt495.2.1 bt495.2.2.1 a1).bind fun bt504 => (if t494 = 0 then (if bt502.2 = 0 then (if bt502.1.toList = t493.toList then (if a1.toList = a2.toList then (if bt504.2 = 0 then ((disk_Check.f k bt495.1 bt495.2.1 bt495.2.2.1).bind fun t506 => (some (t506 == 0))) else (some false)) else (if bt504.2 = 6 then ((disk_Check.f k bt495.1 bt495.2.1 bt495.2.2.1).bind fun t507 => (some (t507 == 0))) else (some false))) else (some false)) else (some false)) else (some false)))) else (some true))) = some r := H
  have A6 := Aside0.mk A60
  clear A60
  replace H := Option.bind_eq_some_iff.mp H
  obtain ⟨⟨t495, t498, t499, t500⟩, A70, H⟩ := H
  replace H : (if t500 = 0 then ((disk_Read.f k t495 t498 t499 a2).bind fun bt502 => ((disk_Read.f k t495 t498 t499 a1).bind fun bt504 => (if t494 = 0 then (if bt502.2 = 0 then (if bt502.1.toList = t493.toList then (if a1.toList = a2.toList then (if bt504.2 = 0 then ((disk_Check.f k t495 t498 t499).bind fun t506 => (some (t506 == 0))) else (some false)) else (if bt504.2 = 6 then ((disk_Check.f k t495 t498 t499).bind fun t507 => (some (t507 == 0))) else (some false))) else (some false)) else (some false)) else (some false)))) else (some true)) = some r := H
  have A7 := Aside0.mk A70
  clear A70
  by_cases c8 : t500 = 0
  ·rw [if_pos c8] at H
   have c8b0 : (t500 == 0) = true := beq_iff_eq.mpr c8
   have c8b1 : (t500 != 0) = false := bne_eq_false_iff_eq.mpr c8
   clear c8
   replace H := Option.bind_eq_some_iff.mp H
   obtain ⟨⟨t502, t503⟩, A90, H⟩ := H
   replace H : ((disk_Read.f k t495 t498 t499 a1).bind fun bt504 => (if t494 = 0 then (if t503 = 0 then (if t502.toList = t493.toList then (if a1.toList = a2.toList then (if bt504.2 = 0 then ((disk_Check.f k t495 t498 t499).bind fun t506 => (some (t506 == 0))) else (some false)) else (if bt504.2 = 6 then ((disk_Check.f k t495 t498 t499).bind fun t507 => (some (t507 == 0))) else (some false))) else (some false)) else (some false)) else (some false))) = some r := H
   have A9 := Aside0.mk A90
   clear A90
   replace H := Option.bind_eq_some_iff.mp H
   obtain ⟨⟨t504, t505⟩, A100, H⟩ := H
   replace H : (if t494 = 0 then (if t503 = 0 then (if t502.toList = t493.toList then (if a1.toList = a2.toList then (if t505 = 0 then ((disk_Check.f k t495 t498 t499).bind fun t506 => (some (t506 == 0))) else (some false)) else (if t505 = 6 then ((disk_Check.f k t495 t498 t499).bind fun t507 => (some (t507 == 0))) else (some false))) else (some false)) else (some false)) else (some false)) = some r := H
   have A10 := Aside0.mk A100
   clear A100
   by_cases c11 : t494 = 0
   ·rw [if_pos c11] at H
    have c11b0 : (t494 == 0) = true := beq_iff_eq.mpr c11
    have c11b1 : (t494 != 0) = false := bne_eq_false_iff_eq.mpr c11
    clear c11
    by_cases c12 : t503 = 0
    ·rw [if_pos c12] at H
     have c12b0 : (t503 == 0) = true := beq_iff_eq.mpr c12
     have c12b1 : (t503 != 0) = false := bne_eq_false_iff_eq.mpr c12
     clear c12
     by_cases c13 : t502.toList = t493.toList
     ·rw [if_pos c13] at H
      have c13b0 : (t502.toList == t493.toList) = true := beq_iff_eq.mpr c13
      have c13b1 : (t502.toList != t493.toList) = false := bne_eq_false_iff_eq.mpr c13
      clear c13
      by_cases c14 : a1.toList = a2.toList
      ·rw [if_pos c14] at H
       have c14b0 : (a1.toList == a2.toList) = true := beq_iff_eq.mpr c14
       have c14b1 : (a1.toList != a2.toList) = false := bne_eq_false_iff_eq.mpr c14
       clear c14
       by_cases c15 : t505 = 0
       ·rw [if_pos c15] at H
        have c15b0 : (t505 == 0) = true := beq_iff_eq.mpr c15
        have c15b1 : (t505 != 0) = false := bne_eq_false_iff_eq.mpr c15
        clear c15
        replace H := Option.bind_eq_some_iff.mp H
        obtain ⟨t506, A160, H⟩ := H
        replace H : (some (t506 == 0)) = some r := H
        have A16 := Aside0.mk A160
        clear A160
        obtain rfl := Option.some.inj H
        go_enter Try.func6, Try.ntmps6
        go_wp2_with (first | ((with_reducible refine gate_dst (N := 3) rfl ?_); refine box_event ?hg (N := 3) ?hd (cs := #[.slice A0_0 l0_0.length c0_0, .bool a0_1, .int .i64 a0_2]) (t := 24) ?hr ?_; (case hd => rfl); (case hg => rfl); (case hr => first | (go_simp; done) | (go_simp; rfl)); intro gb491 hg w17 hbox hb; have BK491 := Aside0.mk (hbox); have GW491 := Aside0.mk (bs_0 hg HB); have GE491 := Aside0.mk (bs_0 hg HB); replace HB := Aside0.mk (below_step (bl_ HB) hb); clear hb hbox hg) | ((with_reducible refine gate_callee (f := 14) rfl ?_); refine goesL_ (some 15) rfl rfl Try.func14 (by kernel_rfl) rfl #[] rfl (ar_) ?_; (with_reducible refine (gafferlaw02_lives.calls k  true _ A4.out).mono ?_); rintro e w18 ⟨rfl, hb⟩; refine ⟨_, rfl, ?_⟩; replace BK491 := Aside0.mk (bb_ BK491 hb); replace HB := Aside0.mk (below_step (bl_1 HB GE491) hb); (try clear hb); (try clear hb2); (try clear hk); (try clear hi); obtain ⟨hcz19_0, hcz19_1, hcz19_2, hfz19_0, hfz19_1, hfz19_2⟩ := c3_ BK491) | ((with_reducible refine gate_callee (f := 17) rfl ?_); refine goesL_ (some 20) rfl rfl Try.func17 (by kernel_rfl) rfl #[.agg #[.slice A0_0 l0_0.length c0_0, .bool a0_1, .int .i64 a0_2], .string a1] rfl (ar_) ?_; (with_reducible refine (disk_Read.calls k _ _ l0_0 a0_1 a0_2 a1 t493 t494 _ ?side1 ?side2 A6.out).mono ?_); (case side1 => repeat (first | exact (Kd.C_below HR0_0.out HB.out) | (with_reducible refine Kd.C_alloc ?_ _) | (with_reducible refine Kd.C_drewN ?_ _) | (with_reducible refine Kd.C_drew ?_))); (case side2 => exact HC0_0.out); rintro e w20 ⟨rfl, hb⟩; refine ⟨_, rfl, ?_⟩; replace BK491 := Aside0.mk (bb_ BK491 hb); replace HB := Aside0.mk (below_step (bl_1 HB GE491) hb); (try clear hb); (try clear hb2); (try clear hk); (try clear hi); obtain ⟨hcz21_0, hcz21_1, hcz21_2, hfz21_0, hfz21_1, hfz21_2⟩ := c3_ BK491) | ((with_reducible refine gate_callee (f := 20) rfl ?_); refine goesL_ (some 27) rfl rfl Try.func20 (by kernel_rfl) rfl #[.agg #[.slice A0_0 l0_0.length c0_0, .bool a0_1, .int .i64 a0_2], .string a1, .string a2] rfl (ar_) ?_; (with_reducible refine (disk_Swap.calls k _ _ l0_0 a0_1 a0_2 a1 a2 t495 t498 t499 t500 _ ?side1 ?side2 A7.out).mono ?_); (case side1 => repeat (first | exact (Kd.C_below HR0_0.out HB.out) | (with_reducible refine Kd.C_alloc ?_ _) | (with_reducible refine Kd.C_drewN ?_ _) | (with_reducible refine Kd.C_drew ?_))); (case side2 => exact HC0_0.out); rintro e w22 ⟨v496, rfl, ho0, hb⟩; refine ⟨_, rfl, ?_⟩; have HO497 := Aside0.mk (Kd.R_lower ho0 (below_size (bl_1 HB GE491))); replace BK491 := Aside0.mk (bb_ BK491 hb); replace HB := Aside0.mk (below_step (bl_1 HB GE491) hb); (try clear hb); (try clear hb2); (try clear hk); (try clear hi); (try clear ho0)) | ((with_reducible refine gate_dst (N := 9) rfl ?_); refine box_event ?hg (N := 9) ?hd (cs := #[.slice none 0 0, .bool false, .int .i64 0]) (t := 24) ?hr ?_; (case hd => rfl); (case hg => rfl); (case hr => first | (go_simp; done) | (go_simp; rfl)); intro gb501 hg w23 hbox hb; replace HO497 := Aside0.mk (Kd.R_below (by (with_reducible repeat (first | apply Kd.R_alloc | apply Kd.R_drewN | apply Kd.R_drew)); exact HO497.out) hb); have BK501 := Aside0.mk (hbox); have GW501 := Aside0.mk (bs_1 hg HB GE491); have GE501 := Aside0.mk (bs_1 hg HB GE491); replace HB := Aside0.mk (below_step (bl_1 HB GE491) hb); have NB491_501 := Aside0.mk (nb_ hg BK491); have NB501_491 := Aside0.mk (nc_ hg BK491); replace BK491 := Aside0.mk (bb_ BK491 hb); clear hb hbox hg; obtain ⟨Ao24, co24, eo24⟩ := Kd.R_slice HO497.out; subst eo24; have hnb25 := NB501_491.out; have hnc25 := NB491_501.out; obtain ⟨hcz26_0, hcz26_1, hcz26_2, hfz26_0, hfz26_1, hfz26_2⟩ := c3_ BK501) | ((with_reducible refine gate_callee (f := 17) rfl ?_); refine goesL_ (some 35) rfl rfl Try.func17 (by kernel_rfl) rfl #[.agg #[.slice Ao24 t495.length co24, .bool t498, .int .i64 t499], .string a2] rfl (ar_) ?_; (with_reducible refine (disk_Read.calls k _ _ t495 t498 t499 a2 t502 t503 _ ?side1 ?side2 A9.out).mono ?_); (case side1 => refine (Kd.R_reads' (e := 35) (base := w.heap.size) (ok := fun k_ => True) (n := t495.length) (c := co24) ?_).2.2; exact (by (with_reducible repeat (first | apply Kd.R_alloc | apply Kd.R_drewN | apply Kd.R_drew)); exact (Kd.R_mono (Kd.R_far (p := ⟨gb501, 2, none⟩) (Kd.R_far (p := ⟨gb501, 1, none⟩) (Kd.R_far (p := ⟨gb501, 0, none⟩) (Kd.R_types HO497.out BK501.out (by decide)) (fun _ hk => hk.2) (.slice Ao24 t495.length co24)) (fun _ hk => hk.2) (.bool t498)) (fun _ hk => hk.2) (.int .i64 t499)) (fun _ h_ => h_.1)))); (case side2 => exact (Kd.R_reads' HO497.out).2.1); rintro e w27 ⟨rfl, hb⟩; refine ⟨_, rfl, ?_⟩; replace HO497 := Aside0.mk (Kd.R_below (by (with_reducible repeat (first | apply Kd.R_alloc | apply Kd.R_drewN | apply Kd.R_drew)); exact (Kd.R_mono (Kd.R_far (p := ⟨gb501, 2, none⟩) (Kd.R_far (p := ⟨gb501, 1, none⟩) (Kd.R_far (p := ⟨gb501, 0, none⟩) (Kd.R_types HO497.out BK501.out (by decide)) (fun _ hk => hk.2) (.slice Ao24 t495.length co24)) (fun _ hk => hk.2) (.bool t498)) (fun _ hk => hk.2) (.int .i64 t499)) (fun _ h_ => h_.1))) hb); replace BK491 := Aside0.mk (blk_below (g := gb491) (o := .cells #[.slice A0_0 l0_0.length c0_0, .bool a0_1, .int .i64 a0_2] 24 (0, 0)) (bp_1 BK491 NB491_501) hb); replace BK501 := Aside0.mk (blk_below (g := gb501) (o := .cells #[.slice Ao24 t495.length co24, .bool t498, .int .i64 t499] 24 (0, 0)) (bp_0 BK501) hb); replace HB := Aside0.mk (below_step (bl_2 HB GE491 GE501) hb); (try clear hb); (try clear hb2); (try clear hk); (try clear hi); obtain ⟨hcz28_0, hcz28_1, hcz28_2, hfz28_0, hfz28_1, hfz28_2⟩ := c3_ BK501) | ((with_reducible refine gate_callee (f := 17) rfl ?_); refine goesL_ (some 41) rfl rfl Try.func17 (by kernel_rfl) rfl #[.agg #[.slice Ao24 t495.length co24, .bool t498, .int .i64 t499], .string a1] rfl (ar_) ?_; (with_reducible refine (disk_Read.calls k _ _ t495 t498 t499 a1 t504 t505 _ ?side1 ?side2 A10.out).mono ?_); (case side1 => repeat (first | exact (Kd.R_reads' HO497.out).2.2 | (with_reducible refine Kd.C_alloc ?_ _) | (with_reducible refine Kd.C_drewN ?_ _) | (with_reducible refine Kd.C_drew ?_))); (case side2 => exact (Kd.R_reads' HO497.out).2.1); rintro e w29 ⟨rfl, hb⟩; refine ⟨_, rfl, ?_⟩; replace HO497 := Aside0.mk (Kd.R_below (by (with_reducible repeat (first | apply Kd.R_alloc | apply Kd.R_drewN | apply Kd.R_drew)); exact HO497.out) hb); replace BK491 := Aside0.mk (bb_ BK491 hb); replace BK501 := Aside0.mk (bb_ BK501 hb); replace HB := Aside0.mk (below_step (bl_2 HB GE491 GE501) hb); (try clear hb); (try clear hb2); (try clear hk); (try clear hi); obtain ⟨hcz30_0, hcz30_1, hcz30_2, hfz30_0, hfz30_1, hfz30_2⟩ := c3_ BK501) | (go_at_call 16; (with_reducible refine (disk_Check.calls k _ _ t495 t498 t499 t506 _ ?side1 ?side2 A16.out).mono ?_); (case side1 => repeat (first | exact (Kd.R_reads' HO497.out).2.2 | (with_reducible refine Kd.C_alloc ?_ _) | (with_reducible refine Kd.C_drewN ?_ _) | (with_reducible refine Kd.C_drew ?_))); (case side2 => exact (Kd.R_reads' HO497.out).2.1); rintro e w31 ⟨rfl, hb⟩; replace HO497 := Aside0.mk (Kd.R_below (by (with_reducible repeat (first | apply Kd.R_alloc | apply Kd.R_drewN | apply Kd.R_drew)); exact HO497.out) hb); replace BK491 := Aside0.mk (bb_ BK491 hb); replace BK501 := Aside0.mk (bb_ BK501 hb); replace HB := Aside0.mk (below_step (bl_2 HB GE491 GE501) hb); (try clear hb); (try clear hb2); (try clear hk); (try clear hi)))
        go_ret
        exact ⟨by first | rfl | (simp; done) | (simp [*]; done), bl_2 HB GE491 GE501⟩
       ·rw [if_neg c15] at H
        have c15b0 : (t505 == 0) = false := beq_eq_false_iff_ne.mpr c15
        have c15b1 : (t505 != 0) = true := bne_iff_ne.mpr c15
        exact absurd (H.trans (congrArg some hr)) (by simp)
      ·rw [if_neg c14] at H
       have c14b0 : (a1.toList == a2.toList) = false := beq_eq_false_iff_ne.mpr c14
       have c14b1 : (a1.toList != a2.toList) = true := bne_iff_ne.mpr c14
       by_cases c32 : t505 = 6
       ·rw [if_pos c32] at H
        have c32b0 : (t505 == 6) = true := beq_iff_eq.mpr c32
        have c32b1 : (t505 != 6) = false := bne_eq_false_iff_eq.mpr c32
        clear c32
        replace H := Option.bind_eq_some_iff.mp H
        obtain ⟨t507, A330, H⟩ := H
        replace H : (some (t507 == 0)) = some r := H
        have A33 := Aside0.mk A330
        clear A330
        obtain rfl := Option.some.inj H
        go_enter Try.func6, Try.ntmps6
        go_wp2_with (first | ((with_reducible refine gate_dst (N := 3) rfl ?_); refine box_event ?hg (N := 3) ?hd (cs := #[.slice A0_0 l0_0.length c0_0, .bool a0_1, .int .i64 a0_2]) (t := 24) ?hr ?_; (case hd => rfl); (case hg => rfl); (case hr => first | (go_simp; done) | (go_simp; rfl)); intro gb491 hg w34 hbox hb; have BK491 := Aside0.mk (hbox); have GW491 := Aside0.mk (bs_0 hg HB); have GE491 := Aside0.mk (bs_0 hg HB); replace HB := Aside0.mk (below_step (bl_ HB) hb); clear hb hbox hg) | ((with_reducible refine gate_callee (f := 14) rfl ?_); refine goesL_ (some 15) rfl rfl Try.func14 (by kernel_rfl) rfl #[] rfl (ar_) ?_; (with_reducible refine (gafferlaw02_lives.calls k  true _ A4.out).mono ?_); rintro e w35 ⟨rfl, hb⟩; refine ⟨_, rfl, ?_⟩; replace BK491 := Aside0.mk (bb_ BK491 hb); replace HB := Aside0.mk (below_step (bl_1 HB GE491) hb); (try clear hb); (try clear hb2); (try clear hk); (try clear hi); obtain ⟨hcz36_0, hcz36_1, hcz36_2, hfz36_0, hfz36_1, hfz36_2⟩ := c3_ BK491) | ((with_reducible refine gate_callee (f := 17) rfl ?_); refine goesL_ (some 20) rfl rfl Try.func17 (by kernel_rfl) rfl #[.agg #[.slice A0_0 l0_0.length c0_0, .bool a0_1, .int .i64 a0_2], .string a1] rfl (ar_) ?_; (with_reducible refine (disk_Read.calls k _ _ l0_0 a0_1 a0_2 a1 t493 t494 _ ?side1 ?side2 A6.out).mono ?_); (case side1 => repeat (first | exact (Kd.C_below HR0_0.out HB.out) | (with_reducible refine Kd.C_alloc ?_ _) | (with_reducible refine Kd.C_drewN ?_ _) | (with_reducible refine Kd.C_drew ?_))); (case side2 => exact HC0_0.out); rintro e w37 ⟨rfl, hb⟩; refine ⟨_, rfl, ?_⟩; replace BK491 := Aside0.mk (bb_ BK491 hb); replace HB := Aside0.mk (below_step (bl_1 HB GE491) hb); (try clear hb); (try clear hb2); (try clear hk); (try clear hi); obtain ⟨hcz38_0, hcz38_1, hcz38_2, hfz38_0, hfz38_1, hfz38_2⟩ := c3_ BK491) | ((with_reducible refine gate_callee (f := 20) rfl ?_); refine goesL_ (some 27) rfl rfl Try.func20 (by kernel_rfl) rfl #[.agg #[.slice A0_0 l0_0.length c0_0, .bool a0_1, .int .i64 a0_2], .string a1, .string a2] rfl (ar_) ?_; (with_reducible refine (disk_Swap.calls k _ _ l0_0 a0_1 a0_2 a1 a2 t495 t498 t499 t500 _ ?side1 ?side2 A7.out).mono ?_); (case side1 => repeat (first | exact (Kd.C_below HR0_0.out HB.out) | (with_reducible refine Kd.C_alloc ?_ _) | (with_reducible refine Kd.C_drewN ?_ _) | (with_reducible refine Kd.C_drew ?_))); (case side2 => exact HC0_0.out); rintro e w39 ⟨v496, rfl, ho0, hb⟩; refine ⟨_, rfl, ?_⟩; have HO497 := Aside0.mk (Kd.R_lower ho0 (below_size (bl_1 HB GE491))); replace BK491 := Aside0.mk (bb_ BK491 hb); replace HB := Aside0.mk (below_step (bl_1 HB GE491) hb); (try clear hb); (try clear hb2); (try clear hk); (try clear hi); (try clear ho0)) | ((with_reducible refine gate_dst (N := 9) rfl ?_); refine box_event ?hg (N := 9) ?hd (cs := #[.slice none 0 0, .bool false, .int .i64 0]) (t := 24) ?hr ?_; (case hd => rfl); (case hg => rfl); (case hr => first | (go_simp; done) | (go_simp; rfl)); intro gb501 hg w40 hbox hb; replace HO497 := Aside0.mk (Kd.R_below (by (with_reducible repeat (first | apply Kd.R_alloc | apply Kd.R_drewN | apply Kd.R_drew)); exact HO497.out) hb); have BK501 := Aside0.mk (hbox); have GW501 := Aside0.mk (bs_1 hg HB GE491); have GE501 := Aside0.mk (bs_1 hg HB GE491); replace HB := Aside0.mk (below_step (bl_1 HB GE491) hb); have NB491_501 := Aside0.mk (nb_ hg BK491); have NB501_491 := Aside0.mk (nc_ hg BK491); replace BK491 := Aside0.mk (bb_ BK491 hb); clear hb hbox hg; obtain ⟨Ao41, co41, eo41⟩ := Kd.R_slice HO497.out; subst eo41; have hnb42 := NB501_491.out; have hnc42 := NB491_501.out; obtain ⟨hcz43_0, hcz43_1, hcz43_2, hfz43_0, hfz43_1, hfz43_2⟩ := c3_ BK501) | ((with_reducible refine gate_callee (f := 17) rfl ?_); refine goesL_ (some 35) rfl rfl Try.func17 (by kernel_rfl) rfl #[.agg #[.slice Ao41 t495.length co41, .bool t498, .int .i64 t499], .string a2] rfl (ar_) ?_; (with_reducible refine (disk_Read.calls k _ _ t495 t498 t499 a2 t502 t503 _ ?side1 ?side2 A9.out).mono ?_); (case side1 => refine (Kd.R_reads' (e := 35) (base := w.heap.size) (ok := fun k_ => True) (n := t495.length) (c := co41) ?_).2.2; exact (by (with_reducible repeat (first | apply Kd.R_alloc | apply Kd.R_drewN | apply Kd.R_drew)); exact (Kd.R_mono (Kd.R_far (p := ⟨gb501, 2, none⟩) (Kd.R_far (p := ⟨gb501, 1, none⟩) (Kd.R_far (p := ⟨gb501, 0, none⟩) (Kd.R_types HO497.out BK501.out (by decide)) (fun _ hk => hk.2) (.slice Ao41 t495.length co41)) (fun _ hk => hk.2) (.bool t498)) (fun _ hk => hk.2) (.int .i64 t499)) (fun _ h_ => h_.1)))); (case side2 => exact (Kd.R_reads' HO497.out).2.1); rintro e w44 ⟨rfl, hb⟩; refine ⟨_, rfl, ?_⟩; replace HO497 := Aside0.mk (Kd.R_below (by (with_reducible repeat (first | apply Kd.R_alloc | apply Kd.R_drewN | apply Kd.R_drew)); exact (Kd.R_mono (Kd.R_far (p := ⟨gb501, 2, none⟩) (Kd.R_far (p := ⟨gb501, 1, none⟩) (Kd.R_far (p := ⟨gb501, 0, none⟩) (Kd.R_types HO497.out BK501.out (by decide)) (fun _ hk => hk.2) (.slice Ao41 t495.length co41)) (fun _ hk => hk.2) (.bool t498)) (fun _ hk => hk.2) (.int .i64 t499)) (fun _ h_ => h_.1))) hb); replace BK491 := Aside0.mk (blk_below (g := gb491) (o := .cells #[.slice A0_0 l0_0.length c0_0, .bool a0_1, .int .i64 a0_2] 24 (0, 0)) (bp_1 BK491 NB491_501) hb); replace BK501 := Aside0.mk (blk_below (g := gb501) (o := .cells #[.slice Ao41 t495.length co41, .bool t498, .int .i64 t499] 24 (0, 0)) (bp_0 BK501) hb); replace HB := Aside0.mk (below_step (bl_2 HB GE491 GE501) hb); (try clear hb); (try clear hb2); (try clear hk); (try clear hi); obtain ⟨hcz45_0, hcz45_1, hcz45_2, hfz45_0, hfz45_1, hfz45_2⟩ := c3_ BK501) | ((with_reducible refine gate_callee (f := 17) rfl ?_); refine goesL_ (some 41) rfl rfl Try.func17 (by kernel_rfl) rfl #[.agg #[.slice Ao41 t495.length co41, .bool t498, .int .i64 t499], .string a1] rfl (ar_) ?_; (with_reducible refine (disk_Read.calls k _ _ t495 t498 t499 a1 t504 t505 _ ?side1 ?side2 A10.out).mono ?_); (case side1 => repeat (first | exact (Kd.R_reads' HO497.out).2.2 | (with_reducible refine Kd.C_alloc ?_ _) | (with_reducible refine Kd.C_drewN ?_ _) | (with_reducible refine Kd.C_drew ?_))); (case side2 => exact (Kd.R_reads' HO497.out).2.1); rintro e w46 ⟨rfl, hb⟩; refine ⟨_, rfl, ?_⟩; replace HO497 := Aside0.mk (Kd.R_below (by (with_reducible repeat (first | apply Kd.R_alloc | apply Kd.R_drewN | apply Kd.R_drew)); exact HO497.out) hb); replace BK491 := Aside0.mk (bb_ BK491 hb); replace BK501 := Aside0.mk (bb_ BK501 hb); replace HB := Aside0.mk (below_step (bl_2 HB GE491 GE501) hb); (try clear hb); (try clear hb2); (try clear hk); (try clear hi); obtain ⟨hcz47_0, hcz47_1, hcz47_2, hfz47_0, hfz47_1, hfz47_2⟩ := c3_ BK501) | (go_at_call 16; (with_reducible refine (disk_Check.calls k _ _ t495 t498 t499 t507 _ ?side1 ?side2 A33.out).mono ?_); (case side1 => repeat (first | exact (Kd.R_reads' HO497.out).2.2 | (with_reducible refine Kd.C_alloc ?_ _) | (with_reducible refine Kd.C_drewN ?_ _) | (with_reducible refine Kd.C_drew ?_))); (case side2 => exact (Kd.R_reads' HO497.out).2.1); rintro e w48 ⟨rfl, hb⟩; replace HO497 := Aside0.mk (Kd.R_below (by (with_reducible repeat (first | apply Kd.R_alloc | apply Kd.R_drewN | apply Kd.R_drew)); exact HO497.out) hb); replace BK491 := Aside0.mk (bb_ BK491 hb); replace BK501 := Aside0.mk (bb_ BK501 hb); replace HB := Aside0.mk (below_step (bl_2 HB GE491 GE501) hb); (try clear hb); (try clear hb2); (try clear hk); (try clear hi)))
        go_ret
        exact ⟨by first | rfl | (simp; done) | (simp [*]; done), bl_2 HB GE491 GE501⟩
       ·rw [if_neg c32] at H
        have c32b0 : (t505 == 6) = false := beq_eq_false_iff_ne.mpr c32
        have c32b1 : (t505 != 6) = true := bne_iff_ne.mpr c32
        exact absurd (H.trans (congrArg some hr)) (by simp)
     ·rw [if_neg c13] at H
      have c13b0 : (t502.toList == t493.toList) = false := beq_eq_false_iff_ne.mpr c13
      have c13b1 : (t502.toList != t493.toList) = true := bne_iff_ne.mpr c13
      exact absurd (H.trans (congrArg some hr)) (by simp)
    ·rw [if_neg c12] at H
     have c12b0 : (t503 == 0) = false := beq_eq_false_iff_ne.mpr c12
     have c12b1 : (t503 != 0) = true := bne_iff_ne.mpr c12
     exact absurd (H.trans (congrArg some hr)) (by simp)
   ·rw [if_neg c11] at H
    have c11b0 : (t494 == 0) = false := beq_eq_false_iff_ne.mpr c11
    have c11b1 : (t494 != 0) = true := bne_iff_ne.mpr c11
    exact absurd (H.trans (congrArg some hr)) (by simp)
  ·rw [if_neg c8] at H
   have c8b0 : (t500 == 0) = false := beq_eq_false_iff_ne.mpr c8
   have c8b1 : (t500 != 0) = true := bne_iff_ne.mpr c8
   obtain rfl := Option.some.inj H
   go_enter Try.func6, Try.ntmps6
   go_wp2_with (first | ((with_reducible refine gate_dst (N := 3) rfl ?_); refine box_event ?hg (N := 3) ?hd (cs := #[.slice A0_0 l0_0.length c0_0, .bool a0_1, .int .i64 a0_2]) (t := 24) ?hr ?_; (case hd => rfl); (case hg => rfl); (case hr => first | (go_simp; done) | (go_simp; rfl)); intro gb491 hg w49 hbox hb; have BK491 := Aside0.mk (hbox); have GW491 := Aside0.mk (bs_0 hg HB); have GE491 := Aside0.mk (bs_0 hg HB); replace HB := Aside0.mk (below_step (bl_ HB) hb); clear hb hbox hg) | ((with_reducible refine gate_callee (f := 14) rfl ?_); refine goesL_ (some 15) rfl rfl Try.func14 (by kernel_rfl) rfl #[] rfl (ar_) ?_; (with_reducible refine (gafferlaw02_lives.calls k  true _ A4.out).mono ?_); rintro e w50 ⟨rfl, hb⟩; refine ⟨_, rfl, ?_⟩; replace BK491 := Aside0.mk (bb_ BK491 hb); replace HB := Aside0.mk (below_step (bl_1 HB GE491) hb); (try clear hb); (try clear hb2); (try clear hk); (try clear hi); obtain ⟨hcz51_0, hcz51_1, hcz51_2, hfz51_0, hfz51_1, hfz51_2⟩ := c3_ BK491) | ((with_reducible refine gate_callee (f := 17) rfl ?_); refine goesL_ (some 20) rfl rfl Try.func17 (by kernel_rfl) rfl #[.agg #[.slice A0_0 l0_0.length c0_0, .bool a0_1, .int .i64 a0_2], .string a1] rfl (ar_) ?_; (with_reducible refine (disk_Read.calls k _ _ l0_0 a0_1 a0_2 a1 t493 t494 _ ?side1 ?side2 A6.out).mono ?_); (case side1 => repeat (first | exact (Kd.C_below HR0_0.out HB.out) | (with_reducible refine Kd.C_alloc ?_ _) | (with_reducible refine Kd.C_drewN ?_ _) | (with_reducible refine Kd.C_drew ?_))); (case side2 => exact HC0_0.out); rintro e w52 ⟨rfl, hb⟩; refine ⟨_, rfl, ?_⟩; replace BK491 := Aside0.mk (bb_ BK491 hb); replace HB := Aside0.mk (below_step (bl_1 HB GE491) hb); (try clear hb); (try clear hb2); (try clear hk); (try clear hi); obtain ⟨hcz53_0, hcz53_1, hcz53_2, hfz53_0, hfz53_1, hfz53_2⟩ := c3_ BK491) | ((with_reducible refine gate_callee (f := 20) rfl ?_); refine goesL_ (some 27) rfl rfl Try.func20 (by kernel_rfl) rfl #[.agg #[.slice A0_0 l0_0.length c0_0, .bool a0_1, .int .i64 a0_2], .string a1, .string a2] rfl (ar_) ?_; (with_reducible refine (disk_Swap.calls k _ _ l0_0 a0_1 a0_2 a1 a2 t495 t498 t499 t500 _ ?side1 ?side2 A7.out).mono ?_); (case side1 => repeat (first | exact (Kd.C_below HR0_0.out HB.out) | (with_reducible refine Kd.C_alloc ?_ _) | (with_reducible refine Kd.C_drewN ?_ _) | (with_reducible refine Kd.C_drew ?_))); (case side2 => exact HC0_0.out); rintro e w54 ⟨v496, rfl, ho0, hb⟩; refine ⟨_, rfl, ?_⟩; have HO497 := Aside0.mk (Kd.R_lower ho0 (below_size (bl_1 HB GE491))); replace BK491 := Aside0.mk (bb_ BK491 hb); replace HB := Aside0.mk (below_step (bl_1 HB GE491) hb); (try clear hb); (try clear hb2); (try clear hk); (try clear hi); (try clear ho0)) | ((with_reducible refine gate_dst (N := 9) rfl ?_); refine box_event ?hg (N := 9) ?hd (cs := #[.slice none 0 0, .bool false, .int .i64 0]) (t := 24) ?hr ?_; (case hd => rfl); (case hg => rfl); (case hr => first | (go_simp; done) | (go_simp; rfl)); intro gb501 hg w55 hbox hb; replace HO497 := Aside0.mk (Kd.R_below (by (with_reducible repeat (first | apply Kd.R_alloc | apply Kd.R_drewN | apply Kd.R_drew)); exact HO497.out) hb); have BK501 := Aside0.mk (hbox); have GW501 := Aside0.mk (bs_1 hg HB GE491); have GE501 := Aside0.mk (bs_1 hg HB GE491); replace HB := Aside0.mk (below_step (bl_1 HB GE491) hb); have NB491_501 := Aside0.mk (nb_ hg BK491); have NB501_491 := Aside0.mk (nc_ hg BK491); replace BK491 := Aside0.mk (bb_ BK491 hb); clear hb hbox hg; obtain ⟨Ao56, co56, eo56⟩ := Kd.R_slice HO497.out; subst eo56; have hnb57 := NB501_491.out; have hnc57 := NB491_501.out; obtain ⟨hcz58_0, hcz58_1, hcz58_2, hfz58_0, hfz58_1, hfz58_2⟩ := c3_ BK501))
   go_ret
   exact ⟨by first | rfl | (simp; done) | (simp [*]; done), bl_2 HB GE491 GE501⟩
 ·replace c5 := Bool.eq_false_iff.mpr c5
  subst c5
  have H1 : (some false) = some r := by rw [if_neg (show ¬ (false = true) by decide)] at H; exact H
  clear H
  have H := H1
  clear H1
  exact absurd (H.trans (congrArg some hr)) (by simp)

/-- THE ONE PURE STATEMENT of gafferlaw02_DiskSwapped: yours. -/
def gafferlaw02_DiskSwapped.Pure : Prop := ∀ (x0 : S24) (x1 : ByteArray) (x2 : ByteArray), ok24 x0 → okStr x1 → okStr x2 → ∃ k, gafferlaw02_DiskSwapped.f k x0.f0 x0.f1 x0.f2 x1 x2 = some true

/-! ### gafferref02_Read: function 28 -/
def gafferref02_Read.f (k : Nat) (l0_0 : List (S35)) (a0_1 : Bool) (a0_2 : Int) (a1 : ByteArray) : Option (ByteArray × Int) := (gafferref02_Check.f k l0_0 a0_1 a0_2).bind fun t509 => (if t509 = 0 then (if a0_1 = true then (some ((⟨#[]⟩ : ByteArray), 8)) else ((gafferref02_find.f k l0_0 a0_1 a0_2 a1).bind fun t510 => (if t510 < 0 then (some ((⟨#[]⟩ : ByteArray), 6)) else (if 0 ≤ t510 then (if t510 < (l0_0.length : Int) then (some ((rd_T35 l0_0 t510).f1, 0)) else (none)) else (none))))) else (some ((⟨#[]⟩ : ByteArray), 10)))
theorem gafferref02_Read.mono : ∀ a0 a1 a2 a3 k, LeO (gafferref02_Read.f k a0 a1 a2 a3) (gafferref02_Read.f (k + 1) a0 a1 a2 a3) := by
 intro a0 a1 a2 a3 k
 unfold gafferref02_Read.f
 repeat' first
   | (with_reducible exact gafferref02_Check.mono _ _ _ _)
   | (with_reducible exact gafferref02_find.mono _ _ _ _ _)
   | (with_reducible exact LeO.refl _)
   | (with_reducible exact LeO.none _)
   | (with_reducible refine LeO.ite ?_ ?_)
   | (with_reducible refine LeO.bind ?_ (fun _ => ?_))
   | exact gafferref02_Check.mono _ _ _ _
   | exact gafferref02_find.mono _ _ _ _ _
   | exact LeO.none _
   | refine LeO.ite ?_ ?_
   | refine LeO.bind ?_ (fun _ => ?_)
set_option maxHeartbeats 80000000 in
set_option maxRecDepth 100000 in
theorem gafferref02_Read.calls (k : Nat) (A0_0 : Option Addr) (c0_0 : Nat) (l0_0 : List (S35)) (a0_1 : Bool) (a0_2 : Int) (a1 : ByteArray) (r1 : ByteArray) (r2 : Int) (w : World) (hr0_0 : Kd.C k35 w A0_0 l0_0.length l0_0) (hc0_0 : l0_0.length ≤ c0_0) (h : gafferref02_Read.f k l0_0 a0_1 a0_2 a1 = some (r1, r2)) :
  Calls Try.prog 28 #[.agg #[.slice A0_0 l0_0.length c0_0, .bool a0_1, .int .i64 a0_2], .string a1] w fun e w' => e = .returned (.tuple #[.string r1, .int .i64 r2]) ∧ Below w.heap.size w w' := by
 have hu24 := Try.underlying24
 have HR0_0 := Aside0.mk hr0_0
 have HC0_0 := Aside0.mk hc0_0
 clear hr0_0 hc0_0
 have HB := Aside0.mk (Below.refl w.heap.size w)
 have H : ((gafferref02_Check.f k l0_0 a0_1 a0_2).bind fun t509 => (if t509 = 0 then (if a0_1 = true then (some ((⟨#[]⟩ : ByteArray), 8)) else ((gafferref02_find.f k l0_0 a0_1 a0_2 a1).bind fun t510 => (if t510 < 0 then (some ((⟨#[]⟩ : ByteArray), 6)) else (if 0 ≤ t510 then (if t510 < (l0_0.length : Int) then (some ((rd_T35 l0_0 t510).f1, 0)) else (none)) else (none))))) else (some ((⟨#[]⟩ : ByteArray), 10)))) = some (r1, r2) := h
 clear h
 replace H := Option.bind_eq_some_iff.mp H
 obtain ⟨t509, A30, H⟩ := H
 replace H : (if t509 = 0 then (if a0_1 = true then (some ((⟨#[]⟩ : ByteArray), 8)) else ((gafferref02_find.f k l0_0 a0_1 a0_2 a1).bind fun t510 => (if t510 < 0 then (some ((⟨#[]⟩ : ByteArray), 6)) else (if 0 ≤ t510 then (if t510 < (l0_0.length : Int) then (some ((rd_T35 l0_0 t510).f1, 0)) else (none)) else (none))))) else (some ((⟨#[]⟩ : ByteArray), 10))) = some (r1, r2) := H
 have A3 := Aside0.mk A30
 clear A30
 by_cases c4 : t509 = 0
 ·rw [if_pos c4] at H
  have c4b0 : (t509 == 0) = true := beq_iff_eq.mpr c4
  have c4b1 : (t509 != 0) = false := bne_eq_false_iff_eq.mpr c4
  clear c4
  by_cases c5 : a0_1 = true
  ·subst c5
   have H1 : (some ((⟨#[]⟩ : ByteArray), 8)) = some (r1, r2) := by rw [if_pos rfl] at H; exact H
   clear H
   have H := H1
   clear H1
   simp only [Option.some.injEq, Prod.mk.injEq] at H
   obtain ⟨rfl, rfl⟩ := H
   go_enter Try.func28, Try.ntmps28
   go_wp2_with (first | ((with_reducible refine gate_dst (N := 2) rfl ?_); refine box_event ?hg (N := 2) ?hd (cs := #[.slice A0_0 l0_0.length c0_0, .bool true, .int .i64 a0_2]) (t := 24) ?hr ?_; (case hd => rfl); (case hg => rfl); (case hr => first | (go_simp; done) | (go_simp; rfl)); intro gb508 hg w6 hbox hb; have BK508 := Aside0.mk (hbox); have GW508 := Aside0.mk (bs_0 hg HB); have GE508 := Aside0.mk (bs_0 hg HB); replace HB := Aside0.mk (below_step (bl_ HB) hb); clear hb hbox hg; obtain ⟨hcz7_0, hcz7_1, hcz7_2, hfz7_0, hfz7_1, hfz7_2⟩ := c3_ BK508) | ((with_reducible refine gate_callee (f := 31) rfl ?_); refine goesL_ (some 8) rfl rfl Try.func31 (by kernel_rfl) rfl #[.agg #[.slice A0_0 l0_0.length c0_0, .bool true, .int .i64 a0_2]] rfl (ar_) ?_; (with_reducible refine (gafferref02_Check.calls k _ _ l0_0 true a0_2 t509 _ ?side1 ?side2 A3.out).mono ?_); (case side1 => repeat (first | exact (Kd.C_below HR0_0.out HB.out) | (with_reducible refine Kd.C_alloc ?_ _) | (with_reducible refine Kd.C_drewN ?_ _) | (with_reducible refine Kd.C_drew ?_))); (case side2 => exact HC0_0.out); rintro e w8 ⟨rfl, hb⟩; refine ⟨_, rfl, ?_⟩; replace BK508 := Aside0.mk (bb_ BK508 hb); replace HB := Aside0.mk (below_step (bl_1 HB GE508) hb); (try clear hb); (try clear hb2); (try clear hk); (try clear hi); obtain ⟨hcz9_0, hcz9_1, hcz9_2, hfz9_0, hfz9_1, hfz9_2⟩ := c3_ BK508))
   go_ret2
   exact ⟨by first | rfl | (simp; done) | (simp [*]; done), bl_1 HB GE508⟩
  ·replace c5 := Bool.eq_false_iff.mpr c5
   subst c5
   have H1 : ((gafferref02_find.f k l0_0 false a0_2 a1).bind fun t510 => (if t510 < 0 then (some ((⟨#[]⟩ : ByteArray), 6)) else (if 0 ≤ t510 then (if t510 < (l0_0.length : Int) then (some ((rd_T35 l0_0 t510).f1, 0)) else (none)) else (none)))) = some (r1, r2) := by rw [if_neg (show ¬ (false = true) by decide)] at H; exact H
   clear H
   have H := H1
   clear H1
   replace H := Option.bind_eq_some_iff.mp H
   obtain ⟨t510, A100, H⟩ := H
   replace H : (if t510 < 0 then (some ((⟨#[]⟩ : ByteArray), 6)) else (if 0 ≤ t510 then (if t510 < (l0_0.length : Int) then (some ((rd_T35 l0_0 t510).f1, 0)) else (none)) else (none))) = some (r1, r2) := H
   have A10 := Aside0.mk A100
   clear A100
   by_cases c11 : t510 < 0
   ·rw [if_pos c11] at H
    have c11b0 : decide (t510 < 0) = true := decide_eq_true c11
    clear c11
    simp only [Option.some.injEq, Prod.mk.injEq] at H
    obtain ⟨rfl, rfl⟩ := H
    go_enter Try.func28, Try.ntmps28
    go_wp2_with (first | ((with_reducible refine gate_dst (N := 2) rfl ?_); refine box_event ?hg (N := 2) ?hd (cs := #[.slice A0_0 l0_0.length c0_0, .bool false, .int .i64 a0_2]) (t := 24) ?hr ?_; (case hd => rfl); (case hg => rfl); (case hr => first | (go_simp; done) | (go_simp; rfl)); intro gb508 hg w12 hbox hb; have BK508 := Aside0.mk (hbox); have GW508 := Aside0.mk (bs_0 hg HB); have GE508 := Aside0.mk (bs_0 hg HB); replace HB := Aside0.mk (below_step (bl_ HB) hb); clear hb hbox hg; obtain ⟨hcz13_0, hcz13_1, hcz13_2, hfz13_0, hfz13_1, hfz13_2⟩ := c3_ BK508) | ((with_reducible refine gate_callee (f := 31) rfl ?_); refine goesL_ (some 8) rfl rfl Try.func31 (by kernel_rfl) rfl #[.agg #[.slice A0_0 l0_0.length c0_0, .bool false, .int .i64 a0_2]] rfl (ar_) ?_; (with_reducible refine (gafferref02_Check.calls k _ _ l0_0 false a0_2 t509 _ ?side1 ?side2 A3.out).mono ?_); (case side1 => repeat (first | exact (Kd.C_below HR0_0.out HB.out) | (with_reducible refine Kd.C_alloc ?_ _) | (with_reducible refine Kd.C_drewN ?_ _) | (with_reducible refine Kd.C_drew ?_))); (case side2 => exact HC0_0.out); rintro e w14 ⟨rfl, hb⟩; refine ⟨_, rfl, ?_⟩; replace BK508 := Aside0.mk (bb_ BK508 hb); replace HB := Aside0.mk (below_step (bl_1 HB GE508) hb); (try clear hb); (try clear hb2); (try clear hk); (try clear hi); obtain ⟨hcz15_0, hcz15_1, hcz15_2, hfz15_0, hfz15_1, hfz15_2⟩ := c3_ BK508) | ((with_reducible refine gate_callee (f := 37) rfl ?_); refine goesL_ (some 14) rfl rfl Try.func37 (by kernel_rfl) rfl #[.agg #[.slice A0_0 l0_0.length c0_0, .bool false, .int .i64 a0_2], .string a1] rfl (ar_) ?_; (with_reducible refine (gafferref02_find.calls k _ _ l0_0 false a0_2 a1 t510 _ ?side1 ?side2 A10.out).mono ?_); (case side1 => repeat (first | exact (Kd.C_below HR0_0.out HB.out) | (with_reducible refine Kd.C_alloc ?_ _) | (with_reducible refine Kd.C_drewN ?_ _) | (with_reducible refine Kd.C_drew ?_))); (case side2 => exact HC0_0.out); rintro e w16 ⟨rfl, hb⟩; refine ⟨_, rfl, ?_⟩; replace BK508 := Aside0.mk (bb_ BK508 hb); replace HB := Aside0.mk (below_step (bl_1 HB GE508) hb); (try clear hb); (try clear hb2); (try clear hk); (try clear hi)))
    go_ret2
    exact ⟨by first | rfl | (simp; done) | (simp [*]; done), bl_1 HB GE508⟩
   ·rw [if_neg c11] at H
    have c11b0 : decide (t510 < 0) = false := decide_eq_false c11
    clear c11
    by_cases c17 : 0 ≤ t510
    ·rw [if_pos c17] at H
     have c17b0 : decide (0 ≤ t510) = true := decide_eq_true c17
     clear c17
     by_cases c18 : t510 < (l0_0.length : Int)
     ·rw [if_pos c18] at H
      have c18b0 : decide (t510 < (l0_0.length : Int)) = true := decide_eq_true c18
      clear c18
      simp only [Option.some.injEq, Prod.mk.injEq] at H
      obtain ⟨rfl, rfl⟩ := H
      go_enter Try.func28, Try.ntmps28
      go_wp2_with (first | ((with_reducible refine gate_dst (N := 2) rfl ?_); refine box_event ?hg (N := 2) ?hd (cs := #[.slice A0_0 l0_0.length c0_0, .bool false, .int .i64 a0_2]) (t := 24) ?hr ?_; (case hd => rfl); (case hg => rfl); (case hr => first | (go_simp; done) | (go_simp; rfl)); intro gb508 hg w19 hbox hb; have BK508 := Aside0.mk (hbox); have GW508 := Aside0.mk (bs_0 hg HB); have GE508 := Aside0.mk (bs_0 hg HB); replace HB := Aside0.mk (below_step (bl_ HB) hb); clear hb hbox hg; obtain ⟨hcz20_0, hcz20_1, hcz20_2, hfz20_0, hfz20_1, hfz20_2⟩ := c3_ BK508) | ((with_reducible refine gate_callee (f := 31) rfl ?_); refine goesL_ (some 8) rfl rfl Try.func31 (by kernel_rfl) rfl #[.agg #[.slice A0_0 l0_0.length c0_0, .bool false, .int .i64 a0_2]] rfl (ar_) ?_; (with_reducible refine (gafferref02_Check.calls k _ _ l0_0 false a0_2 t509 _ ?side1 ?side2 A3.out).mono ?_); (case side1 => repeat (first | exact (Kd.C_below HR0_0.out HB.out) | (with_reducible refine Kd.C_alloc ?_ _) | (with_reducible refine Kd.C_drewN ?_ _) | (with_reducible refine Kd.C_drew ?_))); (case side2 => exact HC0_0.out); rintro e w21 ⟨rfl, hb⟩; refine ⟨_, rfl, ?_⟩; replace BK508 := Aside0.mk (bb_ BK508 hb); replace HB := Aside0.mk (below_step (bl_1 HB GE508) hb); (try clear hb); (try clear hb2); (try clear hk); (try clear hi); obtain ⟨hcz22_0, hcz22_1, hcz22_2, hfz22_0, hfz22_1, hfz22_2⟩ := c3_ BK508) | ((with_reducible refine gate_callee (f := 37) rfl ?_); refine goesL_ (some 14) rfl rfl Try.func37 (by kernel_rfl) rfl #[.agg #[.slice A0_0 l0_0.length c0_0, .bool false, .int .i64 a0_2], .string a1] rfl (ar_) ?_; (with_reducible refine (gafferref02_find.calls k _ _ l0_0 false a0_2 a1 t510 _ ?side1 ?side2 A10.out).mono ?_); (case side1 => repeat (first | exact (Kd.C_below HR0_0.out HB.out) | (with_reducible refine Kd.C_alloc ?_ _) | (with_reducible refine Kd.C_drewN ?_ _) | (with_reducible refine Kd.C_drew ?_))); (case side2 => exact HC0_0.out); rintro e w23 ⟨rfl, hb⟩; refine ⟨_, rfl, ?_⟩; replace BK508 := Aside0.mk (bb_ BK508 hb); replace HB := Aside0.mk (below_step (bl_1 HB GE508) hb); (try clear hb); (try clear hb2); (try clear hk); (try clear hi); obtain ⟨hcz24_0, hcz24_1, hcz24_2, hfz24_0, hfz24_1, hfz24_2⟩ := c3_ BK508; have p511 : 0 ≤ (t510 : Int) := of_decide_eq_true (by first | (with_reducible assumption) | assumption); have q511 : t510 < (l0_0.length : Int) := of_decide_eq_true (by first | (with_reducible assumption) | assumption); obtain ⟨ad511, e511, hx511_0, hx511_1, hx511_2⟩ := at_T35 HR0_0.out t510 p511 q511; cases e511; replace hx511_0 := (HB.out.cell (World.block_lt_of_cell? w _ hx511_0)).trans hx511_0; replace hx511_1 := (HB.out.cell (World.block_lt_of_cell? w _ hx511_1)).trans hx511_1; replace hx511_2 := (HB.out.cell (World.block_lt_of_cell? w _ hx511_2)).trans hx511_2; replace p511 := eq_true p511; replace q511 := eq_true q511))
      go_ret2
      exact ⟨by first | rfl | (simp; done) | (simp [*]; done), bl_1 HB GE508⟩
     ·rw [if_neg c18] at H
      exact absurd H (by simp)
    ·rw [if_neg c17] at H
     exact absurd H (by simp)
 ·rw [if_neg c4] at H
  have c4b0 : (t509 == 0) = false := beq_eq_false_iff_ne.mpr c4
  have c4b1 : (t509 != 0) = true := bne_iff_ne.mpr c4
  simp only [Option.some.injEq, Prod.mk.injEq] at H
  obtain ⟨rfl, rfl⟩ := H
  go_enter Try.func28, Try.ntmps28
  go_wp2_with (first | ((with_reducible refine gate_dst (N := 2) rfl ?_); refine box_event ?hg (N := 2) ?hd (cs := #[.slice A0_0 l0_0.length c0_0, .bool a0_1, .int .i64 a0_2]) (t := 24) ?hr ?_; (case hd => rfl); (case hg => rfl); (case hr => first | (go_simp; done) | (go_simp; rfl)); intro gb508 hg w25 hbox hb; have BK508 := Aside0.mk (hbox); have GW508 := Aside0.mk (bs_0 hg HB); have GE508 := Aside0.mk (bs_0 hg HB); replace HB := Aside0.mk (below_step (bl_ HB) hb); clear hb hbox hg; obtain ⟨hcz26_0, hcz26_1, hcz26_2, hfz26_0, hfz26_1, hfz26_2⟩ := c3_ BK508) | ((with_reducible refine gate_callee (f := 31) rfl ?_); refine goesL_ (some 8) rfl rfl Try.func31 (by kernel_rfl) rfl #[.agg #[.slice A0_0 l0_0.length c0_0, .bool a0_1, .int .i64 a0_2]] rfl (ar_) ?_; (with_reducible refine (gafferref02_Check.calls k _ _ l0_0 a0_1 a0_2 t509 _ ?side1 ?side2 A3.out).mono ?_); (case side1 => repeat (first | exact (Kd.C_below HR0_0.out HB.out) | (with_reducible refine Kd.C_alloc ?_ _) | (with_reducible refine Kd.C_drewN ?_ _) | (with_reducible refine Kd.C_drew ?_))); (case side2 => exact HC0_0.out); rintro e w27 ⟨rfl, hb⟩; refine ⟨_, rfl, ?_⟩; replace BK508 := Aside0.mk (bb_ BK508 hb); replace HB := Aside0.mk (below_step (bl_1 HB GE508) hb); (try clear hb); (try clear hb2); (try clear hk); (try clear hi)))
  go_ret2
  exact ⟨by first | rfl | (simp; done) | (simp [*]; done), bl_1 HB GE508⟩

/-! ### stringslite_HasPrefix: function 50 -/
def stringslite_HasPrefix.f (a0 : ByteArray) (a1 : ByteArray) : Option (Bool) := if (a0.size : Int) ≥ (a1.size : Int) then (if 0 ≤ (a1.size : Int) then (if (a1.size : Int) ≤ (a0.size : Int) then (some ((a0.extract 0 a1.size).toList == a1.toList)) else (none)) else (none)) else (some false)
set_option maxHeartbeats 80000000 in
set_option maxRecDepth 100000 in
theorem stringslite_HasPrefix.calls (a0 : ByteArray) (a1 : ByteArray) (r : Bool) (w : World) (h : stringslite_HasPrefix.f a0 a1 = some r) :
  Calls Try.prog 50 #[.string a0, .string a1] w fun e w' => e = .returned (.bool r) ∧ Drawn0 w w' := by
 have H : (if (a0.size : Int) ≥ (a1.size : Int) then (if 0 ≤ (a1.size : Int) then (if (a1.size : Int) ≤ (a0.size : Int) then (some ((a0.extract 0 a1.size).toList == a1.toList)) else (none)) else (none)) else (some false)) = some r := h
 clear h
 by_cases c3 : (a0.size : Int) ≥ (a1.size : Int)
 ·rw [if_pos c3] at H
  have c3b0 : decide ((a1.size : Int) ≤ (a0.size : Int)) = true := decide_eq_true c3
  have c3b1 : decide (a1.size ≤ a0.size) = true := decide_eq_true (Int.ofNat_le.mp c3)
  clear c3
  by_cases c4 : 0 ≤ (a1.size : Int)
  ·rw [if_pos c4] at H
   have c4b0 := eq_true c4
   have c4b1 : decide (0 ≤ (a1.size : Int)) = true := decide_eq_true c4
   clear c4
   by_cases c5 : (a1.size : Int) ≤ (a0.size : Int)
   ·rw [if_pos c5] at H
    have c5b0 := eq_true c5
    have c5b1 : decide ((a1.size : Int) ≤ (a0.size : Int)) = true := decide_eq_true c5
    clear c5
    obtain rfl := Option.some.inj H
    go_enter Try.func50, Try.ntmps50
    go_wp2
    go_ret
    exact ⟨by first | rfl | (simp; done) | (simp [*]; done), dr_⟩
   ·rw [if_neg c5] at H
    exact absurd H (by simp)
  ·rw [if_neg c4] at H
   exact absurd H (by simp)
 ·rw [if_neg c3] at H
  have c3b0 : decide ((a1.size : Int) ≤ (a0.size : Int)) = false := decide_eq_false c3
  have c3b1 : decide (a1.size ≤ a0.size) = false := decide_eq_false (fun h => c3 (Int.ofNat_le.mpr h))
  clear c3
  obtain rfl := Option.some.inj H
  go_enter Try.func50, Try.ntmps50
  go_wp2
  go_ret
  exact ⟨by first | rfl | (simp; done) | (simp [*]; done), dr_⟩

/-! ### strings_HasPrefix: function 43 -/
def strings_HasPrefix.f (a0 : ByteArray) (a1 : ByteArray) : Option (Bool) := (stringslite_HasPrefix.f a0 a1).bind fun t512 => (some t512)
set_option maxHeartbeats 80000000 in
set_option maxRecDepth 100000 in
theorem strings_HasPrefix.calls (a0 : ByteArray) (a1 : ByteArray) (r : Bool) (w : World) (h : strings_HasPrefix.f a0 a1 = some r) :
  Calls Try.prog 43 #[.string a0, .string a1] w fun e w' => e = .returned (.bool r) ∧ Drawn0 w w' := by
 have H : ((stringslite_HasPrefix.f a0 a1).bind fun t512 => (some t512)) = some r := h
 clear h
 replace H := Option.bind_eq_some_iff.mp H
 obtain ⟨t512, A30, H⟩ := H
 replace H : (some t512) = some r := H
 have A3 := Aside0.mk A30
 clear A30
 obtain rfl := Option.some.inj H
 go_enter Try.func43, Try.ntmps43
 go_wp2_with (first | ((with_reducible refine gate_callee (f := 50) rfl ?_); refine goesL_ (some 7) rfl rfl Try.func50 (by kernel_rfl) rfl #[.string a0, .string a1] rfl (ar_) ?_; (with_reducible refine (stringslite_HasPrefix.calls a0 a1 t512 _ A3.out).mono ?_); rintro e w' ⟨rfl, ⟨nd, rfl⟩⟩; refine ⟨_, rfl, ?_⟩))
 go_ret
 exact ⟨by first | rfl | (simp; done) | (simp [*]; done), dr_⟩

end Go.Proofs.Ytpdacpopkegecaa.PA
