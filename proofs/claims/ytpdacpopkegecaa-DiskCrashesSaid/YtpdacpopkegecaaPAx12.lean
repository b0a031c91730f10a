-- Written for this claim by a program of this session. Lean checks it.
import Derived.Test.YtpdacpopkegecaaPAx0
import Derived.Test.YtpdacpopkegecaaPAx2
import Derived.Test.YtpdacpopkegecaaPAx3
import Derived.Test.YtpdacpopkegecaaPAx8
namespace Go.Proofs.Ytpdacpopkegecaa.PA
open Go.RowKit Go.Proofs.YtpdacpopkegecaaW.PrintWords Go.Proofs.YtpdacpopkegecaaW.PrintLast Go.Proofs.YtpdacpopkegecaaW.PrintMore Go.Proofs.Ytpdacpopkegecaa.Sh Go.Proofs.Ytpdacpopkegecaa.Op
attribute [local go_sem] max2_int min2_int max_two min_two max_three min_three max_four min_four   -- for this text's walks alone
set_option linter.unusedVariables false
set_option linter.unusedSimpArgs false

/-! ### gafferref02_Crash: function 13 -/
mutual
def gafferref02_Crash.l0 : Nat → List Int → List (S35) → Int → Int → List (S35) → Bool → Int → Option ((List (S35)) × Bool × Int × Int)
 | 0, _, _, _, _, _, _, _ => none
 | k + 1, x1, x16, x17, x18, x430000, x430001, x430002 => if x18 < x17 then (if 0 ≤ x18 then (if x18 < (x16.length : Int) then (if x18 ≥ (x1.length : Int) then (gafferref02_Crash.j1 k x1 x18 (wrap64 ((((rd_T35 x16 x18).f1).size : Int) - ((rd_T35 x16 x18).f2))) x16 x17 x18 true x430000 x430001 x430002 ((rd_T35 x16 x18).f0) ((rd_T35 x16 x18).f1) ((rd_T35 x16 x18).f2)) else (if x18 < (x1.length : Int) then (gafferref02_Crash.j1 k x1 x18 (wrap64 ((((rd_T35 x16 x18).f1).size : Int) - ((rd_T35 x16 x18).f2))) x16 x17 x18 (decide ((rd x1 x18) < 0)) x430000 x430001 x430002 ((rd_T35 x16 x18).f0) ((rd_T35 x16 x18).f1) ((rd_T35 x16 x18).f2)) else (none))) else (none)) else (none)) else (some (x430000, x430001, x430002, 0))
def gafferref02_Crash.j1 : Nat → List Int → Int → Int → List (S35) → Int → Int → Bool → List (S35) → Bool → Int → ByteArray → ByteArray → Int → Option ((List (S35)) × Bool × Int × Int)
 | 0, _, _, _, _, _, _, _, _, _, _, _, _, _ => none
 | k + 1, x1, x7, x9, x16, x17, x18, x39, x430000, x430001, x430002, x432000, x432001, x432002 => if x39 = true then (if 0 ≤ (wrap64 (x432002)) then (if (wrap64 (x432002)) ≤ (x432001.size : Int) then (if x430000.length < 3518437208883 then (gafferref02_Crash.l0 k x1 x16 x17 (wrap64 (x18 + 1)) (x430000 ++ [(⟨x432000, x432001.extract 0 ((wrap64 (x432002)) : Int).toNat, wrap64 (x432002)⟩ : S35)]) x430001 x430002) else (none)) else (none)) else (none)) else (if 0 ≤ x7 then (if x7 < (x1.length : Int) then (if (rd x1 x7) < x9 then (if 0 ≤ (wrap64 (x432002 + (rd x1 x7))) then (if (wrap64 (x432002 + (rd x1 x7))) ≤ (x432001.size : Int) then (if x430000.length < 3518437208883 then (gafferref02_Crash.l0 k x1 x16 x17 (wrap64 (x18 + 1)) (x430000 ++ [(⟨x432000, x432001.extract 0 ((wrap64 (x432002 + (rd x1 x7))) : Int).toNat, wrap64 (x432002 + (rd x1 x7))⟩ : S35)]) x430001 x430002) else (none)) else (none)) else (none)) else (if 0 ≤ (wrap64 (x432002 + x9)) then (if (wrap64 (x432002 + x9)) ≤ (x432001.size : Int) then (if x430000.length < 3518437208883 then (gafferref02_Crash.l0 k x1 x16 x17 (wrap64 (x18 + 1)) (x430000 ++ [(⟨x432000, x432001.extract 0 ((wrap64 (x432002 + x9)) : Int).toNat, wrap64 (x432002 + x9)⟩ : S35)]) x430001 x430002) else (none)) else (none)) else (none))) else (none)) else (none))
end
def gafferref02_Crash.f (k : Nat) (l0_0 : List (S35)) (a0_1 : Bool) (a0_2 : Int) (l1 : List Int) : Option ((List (S35)) × Bool × Int × Int) := (gafferref02_Check.f k l0_0 a0_1 a0_2).bind fun t428 => (if t428 = 0 then (gafferref02_Crash.l0 k l1 l0_0 (l0_0.length : Int) 0 ([] : List (S35)) false (-1)) else (some (([] : List (S35)), false, 0, 10)))
theorem gafferref02_Crash.mono_l : ∀ k, (∀ y0 y1 y2 y3 y4 y5 y6, LeO (gafferref02_Crash.l0 k y0 y1 y2 y3 y4 y5 y6) (gafferref02_Crash.l0 (k + 1) y0 y1 y2 y3 y4 y5 y6)) ∧ (∀ y0 y1 y2 y3 y4 y5 y6 y7 y8 y9 y10 y11 y12, LeO (gafferref02_Crash.j1 k y0 y1 y2 y3 y4 y5 y6 y7 y8 y9 y10 y11 y12) (gafferref02_Crash.j1 (k + 1) y0 y1 y2 y3 y4 y5 y6 y7 y8 y9 y10 y11 y12))
 | 0 => ⟨fun _ _ _ _ _ _ _ r h => by simp [gafferref02_Crash.l0] at h, fun _ _ _ _ _ _ _ _ _ _ _ _ _ r h => by simp [gafferref02_Crash.j1] at h⟩
 | k + 1 => by
  obtain ⟨ih0, ih1⟩ := gafferref02_Crash.mono_l k
  refine ⟨?_, ?_⟩
  ·intro y0 y1 y2 y3 y4 y5 y6
   unfold gafferref02_Crash.l0
   repeat' first
   | (with_reducible exact ih0 _ _ _ _ _ _ _)
   | (with_reducible exact ih1 _ _ _ _ _ _ _ _ _ _ _ _ _)
   | (with_reducible exact gafferref02_Check.mono _ _ _ _)
   | (with_reducible exact LeO.refl _)
   | (with_reducible exact LeO.none _)
   | (with_reducible refine LeO.ite ?_ ?_)
   | (with_reducible refine LeO.bind ?_ (fun _ => ?_))
   | exact ih0 _ _ _ _ _ _ _
   | exact ih1 _ _ _ _ _ _ _ _ _ _ _ _ _
   | exact gafferref02_Check.mono _ _ _ _
   | exact LeO.none _
   | refine LeO.ite ?_ ?_
   | refine LeO.bind ?_ (fun _ => ?_)
  ·intro y0 y1 y2 y3 y4 y5 y6 y7 y8 y9 y10 y11 y12
   unfold gafferref02_Crash.j1
   repeat' first
   | (with_reducible exact ih0 _ _ _ _ _ _ _)
   | (with_reducible exact ih1 _ _ _ _ _ _ _ _ _ _ _ _ _)
   | (with_reducible exact gafferref02_Check.mono _ _ _ _)
   | (with_reducible exact LeO.refl _)
   | (with_reducible exact LeO.none _)
   | (with_reducible refine LeO.ite ?_ ?_)
   | (with_reducible refine LeO.bind ?_ (fun _ => ?_))
   | exact ih0 _ _ _ _ _ _ _
   | exact ih1 _ _ _ _ _ _ _ _ _ _ _ _ _
   | exact gafferref02_Check.mono _ _ _ _
   | exact LeO.none _
   | refine LeO.ite ?_ ?_
   | refine LeO.bind ?_ (fun _ => ?_)
theorem gafferref02_Crash.mono : ∀ a0 a1 a2 a3 k, LeO (gafferref02_Crash.f k a0 a1 a2 a3) (gafferref02_Crash.f (k + 1) a0 a1 a2 a3) := by
 intro a0 a1 a2 a3 k
 obtain ⟨ih0, ih1⟩ := gafferref02_Crash.mono_l k
 unfold gafferref02_Crash.f
 repeat' first
   | (with_reducible exact ih0 _ _ _ _ _ _ _)
   | (with_reducible exact ih1 _ _ _ _ _ _ _ _ _ _ _ _ _)
   | (with_reducible exact gafferref02_Check.mono _ _ _ _)
   | (with_reducible exact LeO.refl _)
   | (with_reducible exact LeO.none _)
   | (with_reducible refine LeO.ite ?_ ?_)
   | (with_reducible refine LeO.bind ?_ (fun _ => ?_))
   | exact ih0 _ _ _ _ _ _ _
   | exact ih1 _ _ _ _ _ _ _ _ _ _ _ _ _
   | exact gafferref02_Check.mono _ _ _ _
   | exact LeO.none _
   | refine LeO.ite ?_ ?_
   | refine LeO.bind ?_ (fun _ => ?_)
set_option maxHeartbeats 80000000 in
set_option maxRecDepth 100000 in
theorem gafferref02_Crash.calls (k : Nat) (A0_0 : Option Addr) (c0_0 : Nat) (l0_0 : List (S35)) (a0_1 : Bool) (a0_2 : Int) (A1 : Option Addr) (c1 : Nat) (l1 : List Int) (r1 : List (S35)) (r2 : Bool) (r3 : Int) (r4 : Int) (w : World) (hr0_0 : Kd.C k35 w A0_0 l0_0.length l0_0) (hc0_0 : l0_0.length ≤ c0_0) (hr1 : Kd.C (Kd.int .i64) w A1 l1.length l1) (hc1 : l1.length ≤ c1) (h : gafferref02_Crash.f k l0_0 a0_1 a0_2 l1 = some (r1, r2, r3, r4)) :
  Calls Try.prog 13 #[.agg #[.slice A0_0 l0_0.length c0_0, .bool a0_1, .int .i64 a0_2], .slice A1 l1.length c1] w fun e w' => ∃ v0_ : Value, e = .returned (.tuple #[.agg #[v0_, .bool r2, .int .i64 r3], .int .i64 r4]) ∧ Kd.R k35 35 w' w.heap.size (fun _ => True) v0_ r1 ∧ Below w.heap.size w w' := by
 have hu24 := Try.underlying24
 have hu35 := Try.underlying35
 have HR0_0 := Aside0.mk hr0_0
 have HC0_0 := Aside0.mk hc0_0
 clear hr0_0 hc0_0
 have HR1 := Aside0.mk hr1
 have HC1 := Aside0.mk hc1
 clear hr1 hc1
 have HB := Aside0.mk (Below.refl w.heap.size w)
 have H : ((gafferref02_Check.f k l0_0 a0_1 a0_2).bind fun t428 => (if t428 = 0 then (gafferref02_Crash.l0 k l1 l0_0 (l0_0.length : Int) 0 ([] : List (S35)) false (-1)) else (some (([] : List (S35)), false, 0, 10)))) = some (r1, r2, r3, r4) := h
 clear h
 replace H := Option.bind_eq_some_iff.mp H
 obtain ⟨t428, A30, H⟩ := H
 replace H : (if t428 = 0 then (gafferref02_Crash.l0 k l1 l0_0 (l0_0.length : Int) 0 ([] : List (S35)) false (-1)) else (some (([] : List (S35)), false, 0, 10))) = some (r1, r2, r3, r4) := H
 have A3 := Aside0.mk A30
 clear A30
 by_cases c4 : t428 = 0
 ·rw [if_pos c4] at H
  have c4b0 : (t428 == 0) = true := beq_iff_eq.mpr c4
  have c4b1 : (t428 != 0) = false := bne_eq_false_iff_eq.mpr c4
  clear c4
  have H' := Aside0.mk H
  clear H
  go_enter Try.func13, Try.ntmps13
  go_wp2_with (first | ((with_reducible refine gate_dst (N := 2) rfl ?_); refine box_event ?hg (N := 2) ?hd (cs := #[.slice A0_0 l0_0.length c0_0, .bool a0_1, .int .i64 a0_2]) (t := 24) ?hr ?_; (case hd => rfl); (case hg => rfl); (case hr => first | (go_simp; done) | (go_simp; rfl)); intro gb426 hg w5 hbox hb; have BK426 := Aside0.mk (hbox); have GW426 := Aside0.mk (bs_0 hg HB); have GE426 := Aside0.mk (bs_0 hg HB); replace HB := Aside0.mk (below_step (bl_ HB) hb); clear hb hbox hg) | ((with_reducible refine gate_dst (N := 4) rfl ?_); refine box_event ?hg (N := 4) ?hd (cs := #[.slice none 0 0, .bool false, .int .i64 0]) (t := 24) ?hr ?_; (case hd => rfl); (case hg => rfl); (case hr => first | (go_simp; done) | (go_simp; rfl)); intro gb427 hg w6 hbox hb; have BK427 := Aside0.mk (hbox); have GW427 := Aside0.mk (bs_1 hg HB GE426); have GE427 := Aside0.mk (bs_1 hg HB GE426); replace HB := Aside0.mk (below_step (bl_1 HB GE426) hb); have NB426_427 := Aside0.mk (nb_ hg BK426); have NB427_426 := Aside0.mk (nc_ hg BK426); replace BK426 := Aside0.mk (bb_ BK426 hb); clear hb hbox hg; have hnb7 := NB426_427.out; have hnc7 := NB427_426.out; obtain ⟨hcz8_0, hcz8_1, hcz8_2, hfz8_0, hfz8_1, hfz8_2⟩ := c3_ BK426) | ((with_reducible refine gate_callee (f := 31) rfl ?_); refine goesL_ (some 11) rfl rfl Try.func31 (by kernel_rfl) rfl #[.agg #[.slice A0_0 l0_0.length c0_0, .bool a0_1, .int .i64 a0_2]] rfl (ar_) ?_; (with_reducible refine (gafferref02_Check.calls k _ _ l0_0 a0_1 a0_2 t428 _ ?side1 ?side2 A3.out).mono ?_); (case side1 => repeat (first | exact (Kd.C_below HR0_0.out HB.out) | (with_reducible refine Kd.C_alloc ?_ _) | (with_reducible refine Kd.C_drewN ?_ _) | (with_reducible refine Kd.C_drew ?_))); (case side2 => exact HC0_0.out); rintro e w9 ⟨rfl, hb⟩; refine ⟨_, rfl, ?_⟩; replace BK426 := Aside0.mk (bb_ BK426 hb); replace BK427 := Aside0.mk (bb_ BK427 hb); replace HB := Aside0.mk (below_step (bl_2 HB GE426 GE427) hb); (try clear hb); (try clear hb2); (try clear hk); (try clear hi)) | ((with_reducible refine gate_dst (N := 6) rfl ?_); refine box_event ?hg (N := 6) ?hd (cs := #[.slice none 0 0, .bool false, .int .i64 0]) (t := 24) ?hr ?_; (case hd => rfl); (case hg => rfl); (case hr => first | (go_simp; done) | (go_simp; rfl)); intro gb429 hg w10 hbox hb; have BK429 := Aside0.mk (hbox); have GW429 := Aside0.mk (bs_2 hg HB GE426 GE427); have GE429 := Aside0.mk (bs_2 hg HB GE426 GE427); replace HB := Aside0.mk (below_step (bl_2 HB GE426 GE427) hb); have NB426_429 := Aside0.mk (nb_ hg BK426); have NB429_426 := Aside0.mk (nc_ hg BK426); replace BK426 := Aside0.mk (bb_ BK426 hb); have NB427_429 := Aside0.mk (nb_ hg BK427); have NB429_427 := Aside0.mk (nc_ hg BK427); replace BK427 := Aside0.mk (bb_ BK427 hb); clear hb hbox hg; have hnb11 := NB429_426.out; have hnc11 := NB426_429.out; have hnb12 := NB429_427.out; have hnc12 := NB427_429.out; obtain ⟨hcz13_0, hcz13_1, hcz13_2, hfz13_0, hfz13_1, hfz13_2⟩ := c3_ BK429; obtain ⟨hcz14_0, hcz14_1, hcz14_2, hfz14_0, hfz14_1, hfz14_2⟩ := c3_ BK426))
  go_loopg [18] k (fun kq v18 w' => ∃ (x18_1 : Int) (x430000_1 : List (S35)) (u430000 : Value), v18 = .int .i64 x18_1 ∧ Aside0 (gafferref02_Crash.l0 kq l1 l0_0 (l0_0.length : Int) x18_1 x430000_1 false (-1) = some (r1, r2, r3, r4)) ∧ Aside0 (kq ≤ k) ∧ Aside0 (Kd.R k35 35 w' w.heap.size (fun _ => True) u430000 x430000_1) ∧ Aside0 (w'.heap[gb426]? = some (.cells #[(.slice A0_0 l0_0.length c0_0), .bool a0_1, .int .i64 a0_2] 24 (0, 0))) ∧ Aside0 (w'.heap[gb427]? = some (.cells #[(.slice none 0 0), .bool false, .int .i64 0] 24 (0, 0))) ∧ Aside0 (w'.heap[gb429]? = some (.cells #[u430000, .bool false, .int .i64 (-1)] 24 (0, 0))) ∧ Aside0 (Below w.heap.size w w'))
  case atStart => exact ⟨(0), (([] : List (S35))), (.slice none 0 0), (by first | rfl | (simp; done) | (simp [*]; done)), H', ⟨Nat.le_refl _⟩, ⟨by first | exact Kd.R_nil _ _ _ _ _ | exact Kd.N_nil _ _ _ _ _ | exact Kd.V_nil _ _ _ _ _ | exact Kd.Q_nil _ _ _ _ _ | exact Kd.S_nil _ _ _ _ _⟩, ⟨by (with_reducible repeat (first | refine blk_drewN ?_ _ | refine blk_drew ?_ | refine blk_alloc ?_ _)); refine blk_far ?_ NB426_429.out _; (with_reducible repeat (first | refine blk_drewN ?_ _ | refine blk_drew ?_ | refine blk_alloc ?_ _)); refine blk_far ?_ NB426_429.out _; (with_reducible repeat (first | refine blk_drewN ?_ _ | refine blk_drew ?_ | refine blk_alloc ?_ _)); refine blk_far ?_ NB426_429.out _; (with_reducible repeat (first | refine blk_drewN ?_ _ | refine blk_drew ?_ | refine blk_alloc ?_ _)); exact BK426.out⟩, ⟨by (with_reducible repeat (first | refine blk_drewN ?_ _ | refine blk_drew ?_ | refine blk_alloc ?_ _)); refine blk_far ?_ NB427_429.out _; (with_reducible repeat (first | refine blk_drewN ?_ _ | refine blk_drew ?_ | refine blk_alloc ?_ _)); refine blk_far ?_ NB427_429.out _; (with_reducible repeat (first | refine blk_drewN ?_ _ | refine blk_drew ?_ | refine blk_alloc ?_ _)); refine blk_far ?_ NB427_429.out _; (with_reducible repeat (first | refine blk_drewN ?_ _ | refine blk_drew ?_ | refine blk_alloc ?_ _)); exact BK427.out⟩, ⟨by (with_reducible repeat (first | refine blk_drewN ?_ _ | refine blk_drew ?_ | refine blk_alloc ?_ _)); refine blk_put (cs := #[.slice none 0 0, .bool false, .int .i64 0]) ?_ 2 _ rfl; (with_reducible repeat (first | refine blk_drewN ?_ _ | refine blk_drew ?_ | refine blk_alloc ?_ _)); refine blk_put (cs := #[.slice none 0 0, .bool false, .int .i64 0]) ?_ 1 _ rfl; (with_reducible repeat (first | refine blk_drewN ?_ _ | refine blk_drew ?_ | refine blk_alloc ?_ _)); refine blk_put (cs := #[.slice none 0 0, .bool false, .int .i64 0]) ?_ 0 _ rfl; (with_reducible repeat (first | refine blk_drewN ?_ _ | refine blk_drew ?_ | refine blk_alloc ?_ _)); exact BK429.out⟩, ⟨bl_3 HB GE426 GE427 GE429⟩⟩
  case round =>
   clear H'
   try clear c1
   try clear p2
   try clear c3
   try clear c4
   try clear c4b0
   try clear c4b1
   try clear c7
   try clear c11
   try clear c12
   try clear c13
   try clear hcz13_0
   try clear hcz13_1
   try clear hcz13_2
   try clear hcz14_0
   try clear hcz14_1
   try clear hcz14_2
   try clear hcz8_0
   try clear hcz8_1
   try clear hcz8_2
   try clear hfz13_0
   try clear hfz13_1
   try clear hfz13_2
   try clear hfz14_0
   try clear hfz14_1
   try clear hfz14_2
   try clear hfz8_0
   try clear hfz8_1
   try clear hfz8_2
   obtain ⟨x18_1, x430000_1, u430000, rfl, HA, HK1, HO_430000, BK426, BK427, BK429, HB⟩ := hrel
   cases gk with
   | zero => exact absurd HA.out (by simp [gafferref02_Crash.l0])
   | succ k1 =>
    have H := HA.out
    clear HA
    simp only [gafferref02_Crash.l0] at H
    by_cases c15 : x18_1 < (l0_0.length : Int)
    ·rw [if_pos c15] at H
     have c15b0 : decide (x18_1 < (l0_0.length : Int)) = true := decide_eq_true c15
     clear c15
     by_cases c16 : 0 ≤ x18_1
     ·rw [if_pos c16] at H
      have c16b0 : decide (0 ≤ x18_1) = true := decide_eq_true c16
      clear c16
      by_cases c17 : x18_1 < (l0_0.length : Int)
      ·rw [if_pos c17] at H
       have c17b0 : decide (x18_1 < (l0_0.length : Int)) = true := decide_eq_true c17
       clear c17
       have HC18 := Aside0.mk H
       clear H
       have p430 : 0 ≤ (x18_1 : Int) := of_decide_eq_true (by first | (with_reducible assumption) | assumption)
       have q430 : x18_1 < (l0_0.length : Int) := of_decide_eq_true (by first | (with_reducible assumption) | assumption)
       obtain ⟨ad430, e430, hx430_0, hx430_1, hx430_2⟩ := at_T35 HR0_0.out x18_1 p430 q430
       cases e430
       replace hx430_0 := (HB.out.cell (World.block_lt_of_cell? w _ hx430_0)).trans hx430_0
       replace hx430_1 := (HB.out.cell (World.block_lt_of_cell? w _ hx430_1)).trans hx430_1
       replace hx430_2 := (HB.out.cell (World.block_lt_of_cell? w _ hx430_2)).trans hx430_2
       replace p430 := eq_true p430
       replace q430 := eq_true q430
       go_upto_region 8 with (first | ((with_reducible refine gate_dst (N := 8) rfl ?_); refine box_event ?hg (N := 8) ?hd (cs := #[.string (⟨#[]⟩ : ByteArray), .string (⟨#[]⟩ : ByteArray), .int .i64 0]) (t := 35) ?hr ?_; (case hd => rfl); (case hg => rfl); (case hr => first | (go_simp; done) | (go_simp; rfl)); intro gb431 hg w19 hbox hb; replace HO_430000 := Aside0.mk (Kd.R_below (Kd.R_elderB (by (with_reducible repeat (first | apply Kd.R_alloc | apply Kd.R_drewN | apply Kd.R_drew)); exact HO_430000.out) gb431 (Nat.le_of_eq hg.symm)) hb); have BK431 := Aside0.mk (hbox); have GW431 := Aside0.mk (bs_3 hg HB GE426 GE427 GE429); have GE431 := Aside0.mk (bs_3 hg HB GE426 GE427 GE429); replace HB := Aside0.mk (below_step (bl_3 HB GE426 GE427 GE429) hb); have NB426_431 := Aside0.mk (nb_ hg BK426); have NB431_426 := Aside0.mk (nc_ hg BK426); replace BK426 := Aside0.mk (bb_ BK426 hb); have NB427_431 := Aside0.mk (nb_ hg BK427); have NB431_427 := Aside0.mk (nc_ hg BK427); replace BK427 := Aside0.mk (bb_ BK427 hb); have NB429_431 := Aside0.mk (nb_ hg BK429); have NB431_429 := Aside0.mk (nc_ hg BK429); replace BK429 := Aside0.mk (bb_ BK429 hb); clear hb hbox hg; have hnb20 := NB431_426.out; have hnc20 := NB426_431.out; have hnb21 := NB431_427.out; have hnc21 := NB427_431.out; have hnb22 := NB431_429.out; have hnc22 := NB429_431.out; obtain ⟨hcz23_0, hcz23_1, hcz23_2, hfz23_0, hfz23_1, hfz23_2⟩ := c3_ BK431))
       (try simp only [Act.put, List.setIfInBounds_toArray, List.set_cons_zero, List.set_cons_succ])
       go_cut [39] (fun v39 wc => ∃ (kq : Nat) (x39_17 : Bool), v39 = .bool x39_17 ∧ Aside0 (gafferref02_Crash.j1 kq l1 x18_1 (wrap64 ((((rd_T35 l0_0 x18_1).f1).size : Int) - ((rd_T35 l0_0 x18_1).f2))) l0_0 (l0_0.length : Int) x18_1 x39_17 x430000_1 false (-1) ((rd_T35 l0_0 x18_1).f0) ((rd_T35 l0_0 x18_1).f1) ((rd_T35 l0_0 x18_1).f2) = some (r1, r2, r3, r4)) ∧ Aside0 (kq ≤ k1) ∧ Aside0 (Kd.R k35 35 wc w.heap.size (fun k_ => k_ ≠ gb431) u430000 x430000_1) ∧ Aside0 (wc.heap[gb426]? = some (.cells #[(.slice (some ad430) l0_0.length c0_0), .bool a0_1, .int .i64 a0_2] 24 (0, 0))) ∧ Aside0 (wc.heap[gb427]? = some (.cells #[(.slice none 0 0), .bool false, .int .i64 0] 24 (0, 0))) ∧ Aside0 (wc.heap[gb429]? = some (.cells #[u430000, .bool false, .int .i64 (-1)] 24 (0, 0))) ∧ Aside0 (wc.heap[gb431]? = some (.cells #[.string ((rd_T35 l0_0 x18_1).f0), .string ((rd_T35 l0_0 x18_1).f1), .int .i64 ((rd_T35 l0_0 x18_1).f2)] 35 (0, 0))) ∧ Aside0 (Below w.heap.size w wc))
       case first =>
        have H := HC18.out
        clear HC18
        by_cases c24 : x18_1 ≥ (l1.length : Int)
        ·rw [if_pos c24] at H
         have c24b0 : decide ((l1.length : Int) ≤ x18_1) = true := decide_eq_true c24
         clear c24
         (first | rw [c24b0] | (simp only [i64_w, i32_w]; rw [c24b0]) | skip)
         have H' := Aside0.mk H
         clear H
         go_wp2
         go_meet
         case rel => exact ⟨_, (true), (by first | rfl | (simp; done) | (simp [*]; done)), H', ⟨by have := HK1.out; first | omega | exact Nat.le_refl _⟩, ⟨by (with_reducible repeat (first | apply Kd.R_alloc | apply Kd.R_drewN | apply Kd.R_drew)); exact Kd.R_mono (Kd.R_far (p := ⟨gb431, 2, none⟩) (Kd.R_far (p := ⟨gb431, 1, none⟩) (Kd.R_far (p := ⟨gb431, 0, none⟩) (Kd.R_mono HO_430000.out (fun k_ hk => (⟨hk, hk.2⟩ : _ ∧ k_ ≠ gb431))) (fun _ hk => hk.2) (.string ((rd_T35 l0_0 x18_1).f0))) (fun _ hk => hk.2) (.string ((rd_T35 l0_0 x18_1).f1))) (fun _ hk => hk.2) (.int .i64 ((rd_T35 l0_0 x18_1).f2))) (fun _ hk => hk.1.2)⟩, ⟨by (with_reducible repeat (first | refine blk_drewN ?_ _ | refine blk_drew ?_ | refine blk_alloc ?_ _)); refine blk_far ?_ NB426_431.out _; (with_reducible repeat (first | refine blk_drewN ?_ _ | refine blk_drew ?_ | refine blk_alloc ?_ _)); refine blk_far ?_ NB426_431.out _; (with_reducible repeat (first | refine blk_drewN ?_ _ | refine blk_drew ?_ | refine blk_alloc ?_ _)); refine blk_far ?_ NB426_431.out _; (with_reducible repeat (first | refine blk_drewN ?_ _ | refine blk_drew ?_ | refine blk_alloc ?_ _)); exact BK426.out⟩, ⟨by (with_reducible repeat (first | refine blk_drewN ?_ _ | refine blk_drew ?_ | refine blk_alloc ?_ _)); refine blk_far ?_ NB427_431.out _; (with_reducible repeat (first | refine blk_drewN ?_ _ | refine blk_drew ?_ | refine blk_alloc ?_ _)); refine blk_far ?_ NB427_431.out _; (with_reducible repeat (first | refine blk_drewN ?_ _ | refine blk_drew ?_ | refine blk_alloc ?_ _)); refine blk_far ?_ NB427_431.out _; (with_reducible repeat (first | refine blk_drewN ?_ _ | refine blk_drew ?_ | refine blk_alloc ?_ _)); exact BK427.out⟩, ⟨by (with_reducible repeat (first | refine blk_drewN ?_ _ | refine blk_drew ?_ | refine blk_alloc ?_ _)); refine blk_far ?_ NB429_431.out _; (with_reducible repeat (first | refine blk_drewN ?_ _ | refine blk_drew ?_ | refine blk_alloc ?_ _)); refine blk_far ?_ NB429_431.out _; (with_reducible repeat (first | refine blk_drewN ?_ _ | refine blk_drew ?_ | refine blk_alloc ?_ _)); refine blk_far ?_ NB429_431.out _; (with_reducible repeat (first | refine blk_drewN ?_ _ | refine blk_drew ?_ | refine blk_alloc ?_ _)); exact BK429.out⟩, ⟨by (with_reducible repeat (first | refine blk_drewN ?_ _ | refine blk_drew ?_ | refine blk_alloc ?_ _)); refine blk_put (cs := #[.string ((rd_T35 l0_0 x18_1).f0), .string ((rd_T35 l0_0 x18_1).f1), .int .i64 0]) ?_ 2 _ rfl; (with_reducible repeat (first | refine blk_drewN ?_ _ | refine blk_drew ?_ | refine blk_alloc ?_ _)); refine blk_put (cs := #[.string ((rd_T35 l0_0 x18_1).f0), .string (⟨#[]⟩ : ByteArray), .int .i64 0]) ?_ 1 _ rfl; (with_reducible repeat (first | refine blk_drewN ?_ _ | refine blk_drew ?_ | refine blk_alloc ?_ _)); refine blk_put (cs := #[.string (⟨#[]⟩ : ByteArray), .string (⟨#[]⟩ : ByteArray), .int .i64 0]) ?_ 0 _ rfl; (with_reducible repeat (first | refine blk_drewN ?_ _ | refine blk_drew ?_ | refine blk_alloc ?_ _)); exact BK431.out⟩, ⟨bl_4 HB GE426 GE427 GE429 GE431⟩⟩
        ·rw [if_neg c24] at H
         have c24b0 : decide ((l1.length : Int) ≤ x18_1) = false := decide_eq_false c24
         clear c24
         (first | rw [c24b0] | (simp only [i64_w, i32_w]; rw [c24b0]) | skip)
         by_cases c25 : x18_1 < (l1.length : Int)
         ·rw [if_pos c25] at H
          have c25b0 : decide (x18_1 < (l1.length : Int)) = true := decide_eq_true c25
          clear c25
          have H' := Aside0.mk H
          clear H
          have p432 : 0 ≤ (x18_1 : Int) := of_decide_eq_true (by first | (with_reducible assumption) | assumption)
          have q432 : x18_1 < (l1.length : Int) := of_decide_eq_true (by first | (with_reducible assumption) | assumption)
          obtain ⟨ad432, e432, hx432_0⟩ := Kd.at_int HR1.out x18_1 p432 q432
          cases e432
          have hn432_0 : ad432.block ≠ gb431 := Nat.ne_of_lt (Nat.lt_of_lt_of_le (by have := World.block_lt_of_cell? _ _ hx432_0; first | rwa [add_block] at this | exact this) GW431.out)
          have hn432_1 : ad432.block ≠ gb431 := Nat.ne_of_lt (Nat.lt_of_lt_of_le (by have := World.block_lt_of_cell? _ _ hx432_0; first | rwa [add_block] at this | exact this) GW431.out)
          have hn432_2 : ad432.block ≠ gb431 := Nat.ne_of_lt (Nat.lt_of_lt_of_le (by have := World.block_lt_of_cell? _ _ hx432_0; first | rwa [add_block] at this | exact this) GW431.out)
          replace hx432_0 := (HB.out.cell (World.block_lt_of_cell? w _ hx432_0)).trans hx432_0
          replace hx432_0 := (cf_ (p := ⟨gb431, 0, none⟩) hn432_0 (.string ((rd_T35 l0_0 x18_1).f0))).trans hx432_0
          replace hx432_0 := (cf_ (p := ⟨gb431, 1, none⟩) hn432_1 (.string ((rd_T35 l0_0 x18_1).f1))).trans hx432_0
          replace hx432_0 := (cf_ (p := ⟨gb431, 2, none⟩) hn432_2 (.int .i64 ((rd_T35 l0_0 x18_1).f2))).trans hx432_0
          clear hn432_0
          clear hn432_1
          clear hn432_2
          replace p432 := eq_true p432
          replace q432 := eq_true q432
          go_wp2
          go_meet
          case rel => exact ⟨_, (decide ((rd l1 x18_1) < 0)), (by first | rfl | (simp; done) | (simp [*]; done)), H', ⟨by have := HK1.out; first | omega | exact Nat.le_refl _⟩, ⟨by (with_reducible repeat (first | apply Kd.R_alloc | apply Kd.R_drewN | apply Kd.R_drew)); exact Kd.R_mono (Kd.R_far (p := ⟨gb431, 2, none⟩) (Kd.R_far (p := ⟨gb431, 1, none⟩) (Kd.R_far (p := ⟨gb431, 0, none⟩) (Kd.R_mono HO_430000.out (fun k_ hk => (⟨hk, hk.2⟩ : _ ∧ k_ ≠ gb431))) (fun _ hk => hk.2) (.string ((rd_T35 l0_0 x18_1).f0))) (fun _ hk => hk.2) (.string ((rd_T35 l0_0 x18_1).f1))) (fun _ hk => hk.2) (.int .i64 ((rd_T35 l0_0 x18_1).f2))) (fun _ hk => hk.1.2)⟩, ⟨by (with_reducible repeat (first | refine blk_drewN ?_ _ | refine blk_drew ?_ | refine blk_alloc ?_ _)); refine blk_far ?_ NB426_431.out _; (with_reducible repeat (first | refine blk_drewN ?_ _ | refine blk_drew ?_ | refine blk_alloc ?_ _)); refine blk_far ?_ NB426_431.out _; (with_reducible repeat (first | refine blk_drewN ?_ _ | refine blk_drew ?_ | refine blk_alloc ?_ _)); refine blk_far ?_ NB426_431.out _; (with_reducible repeat (first | refine blk_drewN ?_ _ | refine blk_drew ?_ | refine blk_alloc ?_ _)); exact BK426.out⟩, ⟨by (with_reducible repeat (first | refine blk_drewN ?_ _ | refine blk_drew ?_ | refine blk_alloc ?_ _)); refine blk_far ?_ NB427_431.out _; (with_reducible repeat (first | refine blk_drewN ?_ _ | refine blk_drew ?_ | refine blk_alloc ?_ _)); refine blk_far ?_ NB427_431.out _; (with_reducible repeat (first | refine blk_drewN ?_ _ | refine blk_drew ?_ | refine blk_alloc ?_ _)); refine blk_far ?_ NB427_431.out _; (with_reducible repeat (first | refine blk_drewN ?_ _ | refine blk_drew ?_ | refine blk_alloc ?_ _)); exact BK427.out⟩, ⟨by (with_reducible repeat (first | refine blk_drewN ?_ _ | refine blk_drew ?_ | refine blk_alloc ?_ _)); refine blk_far ?_ NB429_431.out _; (with_reducible repeat (first | refine blk_drewN ?_ _ | refine blk_drew ?_ | refine blk_alloc ?_ _)); refine blk_far ?_ NB429_431.out _; (with_reducible repeat (first | refine blk_drewN ?_ _ | refine blk_drew ?_ | refine blk_alloc ?_ _)); refine blk_far ?_ NB429_431.out _; (with_reducible repeat (first | refine blk_drewN ?_ _ | refine blk_drew ?_ | refine blk_alloc ?_ _)); exact BK429.out⟩, ⟨by (with_reducible repeat (first | refine blk_drewN ?_ _ | refine blk_drew ?_ | refine blk_alloc ?_ _)); refine blk_put (cs := #[.string ((rd_T35 l0_0 x18_1).f0), .string ((rd_T35 l0_0 x18_1).f1), .int .i64 0]) ?_ 2 _ rfl; (with_reducible repeat (first | refine blk_drewN ?_ _ | refine blk_drew ?_ | refine blk_alloc ?_ _)); refine blk_put (cs := #[.string ((rd_T35 l0_0 x18_1).f0), .string (⟨#[]⟩ : ByteArray), .int .i64 0]) ?_ 1 _ rfl; (with_reducible repeat (first | refine blk_drewN ?_ _ | refine blk_drew ?_ | refine blk_alloc ?_ _)); refine blk_put (cs := #[.string (⟨#[]⟩ : ByteArray), .string (⟨#[]⟩ : ByteArray), .int .i64 0]) ?_ 0 _ rfl; (with_reducible repeat (first | refine blk_drewN ?_ _ | refine blk_drew ?_ | refine blk_alloc ?_ _)); exact BK431.out⟩, ⟨bl_4 HB GE426 GE427 GE429 GE431⟩⟩
         ·rw [if_neg c25] at H
          exact absurd H (by simp)
       case rest =>
        clear HC18
        try clear c1
        try clear c2
        try clear p2
        try clear c3
        try clear c4
        try clear c4b0
        try clear c4b1
        try clear p4
        try clear q4
        try clear hx4
        try clear p6
        try clear c7
        try clear c11
        try clear c12
        try clear c13
        try clear c15
        try clear c15b0
        try clear c16
        try clear c16b0
        try clear c17
        try clear c17b0
        try clear c20
        try clear c21
        try clear c22
        try clear c24
        try clear c24b0
        try clear c25
        try clear c25b0
        try clear hcz13_0
        try clear hcz13_1
        try clear hcz13_2
        try clear hcz14_0
        try clear hcz14_1
        try clear hcz14_2
        try clear hcz23_0
        try clear hcz23_1
        try clear hcz23_2
        try clear hcz8_0
        try clear hcz8_1
        try clear hcz8_2
        try clear hfz13_0
        try clear hfz13_1
        try clear hfz13_2
        try clear hfz14_0
        try clear hfz14_1
        try clear hfz14_2
        try clear hfz23_0
        try clear hfz23_1
        try clear hfz23_2
        try clear hfz8_0
        try clear hfz8_1
        try clear hfz8_2
        try clear hx430_0
        try clear hx430_1
        try clear hx430_2
        try clear hx432_0
        try clear p2
        try clear p430
        try clear p432
        try clear q430
        try clear q432
        obtain ⟨kq, x39_17, rfl, HA, HJ17, HO_430000, BK426, BK427, BK429, BK431, HB⟩ := hcut
        cases kq with
        | zero => exact absurd HA.out (by simp [gafferref02_Crash.j1])
        | succ kj17 =>
         have H := HA.out
         clear HA
         simp only [gafferref02_Crash.j1] at H
         by_cases c26 : x39_17 = true
         ·subst c26
          have H1 : (if 0 ≤ (wrap64 (((rd_T35 l0_0 x18_1).f2))) then (if (wrap64 (((rd_T35 l0_0 x18_1).f2))) ≤ (((rd_T35 l0_0 x18_1).f1).size : Int) then (if x430000_1.length < 3518437208883 then (gafferref02_Crash.l0 kj17 l1 l0_0 (l0_0.length : Int) (wrap64 (x18_1 + 1)) (x430000_1 ++ [(⟨((rd_T35 l0_0 x18_1).f0), ((rd_T35 l0_0 x18_1).f1).extract 0 ((wrap64 (((rd_T35 l0_0 x18_1).f2))) : Int).toNat, wrap64 (((rd_T35 l0_0 x18_1).f2))⟩ : S35)]) false (-1)) else (none)) else (none)) else (none)) = some (r1, r2, r3, r4) := by rw [if_pos rfl] at H; exact H
          clear H
          have H := H1
          clear H1
          obtain ⟨ji27, hji27⟩ : ∃ j_ : Int, (wrap64 (((rd_T35 l0_0 x18_1).f2))) = j_ := ⟨_, rfl⟩
          replace H : (if 0 ≤ (ji27) then (if (ji27) ≤ (((rd_T35 l0_0 x18_1).f1).size : Int) then (if x430000_1.length < 3518437208883 then (gafferref02_Crash.l0 kj17 l1 l0_0 (l0_0.length : Int) (wrap64 (x18_1 + 1)) (x430000_1 ++ [(⟨((rd_T35 l0_0 x18_1).f0), ((rd_T35 l0_0 x18_1).f1).extract 0 ((ji27) : Int).toNat, ji27⟩ : S35)]) false (-1)) else (none)) else (none)) else (none)) = some (r1, r2, r3, r4) := by first | (rw [hji27] at H; exact H) | (simp only [hji27] at H ⊢; exact H)
          have hji27w : (IntKind.i64.wrap (((rd_T35 l0_0 x18_1).f2))) = ji27 := (i64_w _).trans hji27
          by_cases c28 : 0 ≤ (ji27)
          ·rw [if_pos c28] at H
           have c28b0 := eq_true c28
           have c28b1 : decide (0 ≤ (ji27)) = true := decide_eq_true c28
           clear c28
           by_cases c29 : (ji27) ≤ (((rd_T35 l0_0 x18_1).f1).size : Int)
           ·rw [if_pos c29] at H
            have c29b0 := eq_true c29
            have c29b1 : decide ((ji27) ≤ (((rd_T35 l0_0 x18_1).f1).size : Int)) = true := decide_eq_true c29
            clear c29
            by_cases c30 : x430000_1.length < 3518437208883
            ·rw [if_pos c30] at H
             have LMc30 := Aside0.mk c30
             clear c30
             obtain ⟨y433, hy433⟩ : ∃ y_ : List (S35), y_ = (x430000_1 ++ [(⟨((rd_T35 l0_0 x18_1).f0), ((rd_T35 l0_0 x18_1).f1).extract 0 ((ji27) : Int).toNat, ji27⟩ : S35)]) := ⟨_, rfl⟩
             replace H : (gafferref02_Crash.l0 kj17 l1 l0_0 (l0_0.length : Int) (wrap64 (x18_1 + 1)) y433 false (-1)) = some (r1, r2, r3, r4) := by first | (rw [hy433]; with_reducible exact H) | (have H2_ := (Option.bind_some _ _).symm.trans H; rw [hy433]; with_reducible exact H2_) | (have H2_ := (Option.bind_some _ _).symm.trans H; with_reducible exact H2_) | with_reducible exact H | (rw [hy433]; exact H) | exact H
             have Ny433 := Aside0.mk hy433
             clear hy433
             have H' := Aside0.mk H
             clear H
             have hnb31 := NB431_426.out
             have hnc31 := NB426_431.out
             have hnb32 := NB431_427.out
             have hnc32 := NB427_431.out
             have hnb33 := NB431_429.out
             have hnc33 := NB429_431.out
             obtain ⟨hcz34_0, hcz34_1, hcz34_2, hfz34_0, hfz34_1, hfz34_2⟩ := c3_ BK431
             have hnb35 := NB429_426.out
             have hnc35 := NB426_429.out
             have hnb36 := NB429_427.out
             have hnc36 := NB427_429.out
             obtain ⟨hcz37_0, hcz37_1, hcz37_2, hfz37_0, hfz37_1, hfz37_2⟩ := c3_ BK429
             go_wp2_with (first | ((with_reducible refine gate_builtin (b := .append) (xs := #[.tmp 62, .tmp 64]) rfl ?_); at_builtin; refine Kd.R_append k35 (w0 := w) w.heap.size rfl (.tmp 62) (.tmp 64) 22 35 (.agg #[(.string ⟨#[]⟩), (.string ⟨#[]⟩), (.int .i64 0)]) 40 rfl Try.underlying22 info35 rfl (by decide) (by omega) u430000 x430000_1 (⟨((rd_T35 l0_0 x18_1).f0), ((rd_T35 l0_0 x18_1).f1).extract 0 ((ji27) : Int).toNat, ji27⟩ : S35) [.string ((rd_T35 l0_0 x18_1).f0), .string (((rd_T35 l0_0 x18_1).f1).extract 0 ((ji27) : Int).toNat), .int .i64 ji27] (fun k_ => k_ ≠ gb431) (fun _ => False) rfl (by first | (go_simp; done) | (go_simp; rfl)) ?aP (fun _ hk => hk.elim) ?aF ?aO ?aB ?aS ?aL ?_; (case aP => exact k35_mkM _ _ _ (⟨((rd_T35 l0_0 x18_1).f0), ((rd_T35 l0_0 x18_1).f1).extract 0 ((ji27) : Int).toNat, ji27⟩ : S35)); (case aB => exact (bl_4 HB GE426 GE427 GE429 GE431)); (case aF => exact (fun k_ hk => Kd.freshB (g := gb431) (o := .cells #[.string ((rd_T35 l0_0 x18_1).f0), .string (((rd_T35 l0_0 x18_1).f1).extract 0 ((ji27) : Int).toNat), .int .i64 ji27] 35 (0, 0)) (bp_0 BK431) k_ hk)); (case aO => exact (by (with_reducible repeat (first | apply Kd.R_alloc | apply Kd.R_drewN | apply Kd.R_drew)); exact Kd.R_mono (Kd.R_far (p := ⟨gb431, 1, none⟩) (Kd.R_far (p := ⟨gb431, 2, none⟩) (Kd.R_mono HO_430000.out (fun k_ hk => (⟨hk, hk⟩ : _ ∧ k_ ≠ gb431))) (fun _ hk => hk.2) (.int .i64 ji27)) (fun _ hk => hk.2) (.string (((rd_T35 l0_0 x18_1).f1).extract 0 ((ji27) : Int).toNat))) (fun _ hk => hk.1))); (case aS => exact (below_size (bl_4 HB GE426 GE427 GE429 GE431))); (case aL => have := LMc30.out; omega); intro v434 w38 ho hb hg hat; rw [← Ny433.out] at ho; replace BK426 := Aside0.mk (blk_grown (g := gb426) (o := .cells #[.slice (some ad430) l0_0.length c0_0, .bool a0_1, .int .i64 a0_2] 24 (0, 0)) (bp_1 BK426 NB426_431) hg (Kd.R_ne HO_430000.out BK426.out (by decide))); replace BK427 := Aside0.mk (blk_grown (g := gb427) (o := .cells #[.slice none 0 0, .bool false, .int .i64 0] 24 (0, 0)) (bp_1 BK427 NB427_431) hg (Kd.R_ne HO_430000.out BK427.out (by decide))); replace BK429 := Aside0.mk (blk_grown (g := gb429) (o := .cells #[u430000, .bool false, .int .i64 (-1)] 24 (0, 0)) (bp_1 BK429 NB429_431) hg (Kd.R_ne HO_430000.out BK429.out (by decide))); replace BK431 := Aside0.mk (blk_grown (g := gb431) (o := .cells #[.string ((rd_T35 l0_0 x18_1).f0), .string (((rd_T35 l0_0 x18_1).f1).extract 0 ((ji27) : Int).toNat), .int .i64 ji27] 35 (0, 0)) (bp_0 BK431) hg (Kd.R_away HO_430000.out (fun _ hk => hk))); replace HB := Aside0.mk (hb); have HO435 := Aside0.mk (ho); clear HO_430000; clear ho hb hg hat; obtain ⟨Ao39, co39, eo39⟩ := Kd.R_slice HO435.out; subst eo39; obtain ⟨hcz40_0, hcz40_1, hcz40_2, hfz40_0, hfz40_1, hfz40_2⟩ := c3_ BK429))
             go_roundg kj17
             case measure => have := HK1.out; have := HJ17.out; omega
             case rel => exact ⟨(wrap64 (x18_1 + 1)), (y433), (.slice Ao39 y433.length co39), (by first | rfl | (simp; done) | (simp [*]; done)), H', ⟨by have := HK1.out; have := HJ17.out; omega⟩, ⟨by (with_reducible repeat (first | apply Kd.R_alloc | apply Kd.R_drewN | apply Kd.R_drew)); exact Kd.R_mono (Kd.R_far (p := ⟨gb429, 0, none⟩) (Kd.R_types HO435.out BK429.out (by decide)) (fun _ hk => hk.2) (.slice Ao39 y433.length co39)) (fun _ hk => trivial)⟩, ⟨by (with_reducible repeat (first | refine blk_drewN ?_ _ | refine blk_drew ?_ | refine blk_alloc ?_ _)); refine blk_far ?_ NB426_429.out _; (with_reducible repeat (first | refine blk_drewN ?_ _ | refine blk_drew ?_ | refine blk_alloc ?_ _)); exact BK426.out⟩, ⟨by (with_reducible repeat (first | refine blk_drewN ?_ _ | refine blk_drew ?_ | refine blk_alloc ?_ _)); refine blk_far ?_ NB427_429.out _; (with_reducible repeat (first | refine blk_drewN ?_ _ | refine blk_drew ?_ | refine blk_alloc ?_ _)); exact BK427.out⟩, ⟨by (with_reducible repeat (first | refine blk_drewN ?_ _ | refine blk_drew ?_ | refine blk_alloc ?_ _)); refine blk_put (cs := #[u430000, .bool false, .int .i64 (-1)]) ?_ 0 _ rfl; (with_reducible repeat (first | refine blk_drewN ?_ _ | refine blk_drew ?_ | refine blk_alloc ?_ _)); exact BK429.out⟩, ⟨bl_4 HB GE426 GE427 GE429 GE431⟩⟩
            ·rw [if_neg c30] at H
             exact absurd H (by simp)
           ·rw [if_neg c29] at H
            exact absurd H (by simp)
          ·rw [if_neg c28] at H
           exact absurd H (by simp)
         ·replace c26 := Bool.eq_false_iff.mpr c26
          subst c26
          have H1 : (if 0 ≤ x18_1 then (if x18_1 < (l1.length : Int) then (if (rd l1 x18_1) < (wrap64 ((((rd_T35 l0_0 x18_1).f1).size : Int) - ((rd_T35 l0_0 x18_1).f2))) then (if 0 ≤ (wrap64 (((rd_T35 l0_0 x18_1).f2) + (rd l1 x18_1))) then (if (wrap64 (((rd_T35 l0_0 x18_1).f2) + (rd l1 x18_1))) ≤ (((rd_T35 l0_0 x18_1).f1).size : Int) then (if x430000_1.length < 3518437208883 then (gafferref02_Crash.l0 kj17 l1 l0_0 (l0_0.length : Int) (wrap64 (x18_1 + 1)) (x430000_1 ++ [(⟨((rd_T35 l0_0 x18_1).f0), ((rd_T35 l0_0 x18_1).f1).extract 0 ((wrap64 (((rd_T35 l0_0 x18_1).f2) + (rd l1 x18_1))) : Int).toNat, wrap64 (((rd_T35 l0_0 x18_1).f2) + (rd l1 x18_1))⟩ : S35)]) false (-1)) else (none)) else (none)) else (none)) else (if 0 ≤ (wrap64 (((rd_T35 l0_0 x18_1).f2) + (wrap64 ((((rd_T35 l0_0 x18_1).f1).size : Int) - ((rd_T35 l0_0 x18_1).f2))))) then (if (wrap64 (((rd_T35 l0_0 x18_1).f2) + (wrap64 ((((rd_T35 l0_0 x18_1).f1).size : Int) - ((rd_T35 l0_0 x18_1).f2))))) ≤ (((rd_T35 l0_0 x18_1).f1).size : Int) then (if x430000_1.length < 3518437208883 then (gafferref02_Crash.l0 kj17 l1 l0_0 (l0_0.length : Int) (wrap64 (x18_1 + 1)) (x430000_1 ++ [(⟨((rd_T35 l0_0 x18_1).f0), ((rd_T35 l0_0 x18_1).f1).extract 0 ((wrap64 (((rd_T35 l0_0 x18_1).f2) + (wrap64 ((((rd_T35 l0_0 x18_1).f1).size : Int) - ((rd_T35 l0_0 x18_1).f2))))) : Int).toNat, wrap64 (((rd_T35 l0_0 x18_1).f2) + (wrap64 ((((rd_T35 l0_0 x18_1).f1).size : Int) - ((rd_T35 l0_0 x18_1).f2))))⟩ : S35)]) false (-1)) else (none)) else (none)) else (none))) else (none)) else (none)) = some (r1, r2, r3, r4) := by rw [if_neg (show ¬ (false = true) by decide)] at H; exact H
          clear H
          have H := H1
          clear H1
          by_cases c41 : 0 ≤ x18_1
          ·rw [if_pos c41] at H
           have c41b0 : decide (0 ≤ x18_1) = true := decide_eq_true c41
           clear c41
           by_cases c42 : x18_1 < (l1.length : Int)
           ·rw [if_pos c42] at H
            have c42b0 : decide (x18_1 < (l1.length : Int)) = true := decide_eq_true c42
            clear c42
            by_cases c43 : (rd l1 x18_1) < (wrap64 ((((rd_T35 l0_0 x18_1).f1).size : Int) - ((rd_T35 l0_0 x18_1).f2)))
            ·rw [if_pos c43] at H
             have c43b0 : decide ((rd l1 x18_1) < (wrap64 ((((rd_T35 l0_0 x18_1).f1).size : Int) - ((rd_T35 l0_0 x18_1).f2)))) = true := decide_eq_true c43
             clear c43
             obtain ⟨ji44, hji44⟩ : ∃ j_ : Int, (wrap64 (((rd_T35 l0_0 x18_1).f2) + (rd l1 x18_1))) = j_ := ⟨_, rfl⟩
             replace H : (if 0 ≤ (ji44) then (if (ji44) ≤ (((rd_T35 l0_0 x18_1).f1).size : Int) then (if x430000_1.length < 3518437208883 then (gafferref02_Crash.l0 kj17 l1 l0_0 (l0_0.length : Int) (wrap64 (x18_1 + 1)) (x430000_1 ++ [(⟨((rd_T35 l0_0 x18_1).f0), ((rd_T35 l0_0 x18_1).f1).extract 0 ((ji44) : Int).toNat, ji44⟩ : S35)]) false (-1)) else (none)) else (none)) else (none)) = some (r1, r2, r3, r4) := by first | (rw [hji44] at H; exact H) | (simp only [hji44] at H ⊢; exact H)
             have hji44w : (IntKind.i64.wrap (((rd_T35 l0_0 x18_1).f2) + (rd l1 x18_1))) = ji44 := (i64_w _).trans hji44
             by_cases c45 : 0 ≤ (ji44)
             ·rw [if_pos c45] at H
              have c45b0 := eq_true c45
              have c45b1 : decide (0 ≤ (ji44)) = true := decide_eq_true c45
              clear c45
              by_cases c46 : (ji44) ≤ (((rd_T35 l0_0 x18_1).f1).size : Int)
              ·rw [if_pos c46] at H
               have c46b0 := eq_true c46
               have c46b1 : decide ((ji44) ≤ (((rd_T35 l0_0 x18_1).f1).size : Int)) = true := decide_eq_true c46
               clear c46
               by_cases c47 : x430000_1.length < 3518437208883
               ·rw [if_pos c47] at H
                have LMc47 := Aside0.mk c47
                clear c47
                obtain ⟨y438, hy438⟩ : ∃ y_ : List (S35), y_ = (x430000_1 ++ [(⟨((rd_T35 l0_0 x18_1).f0), ((rd_T35 l0_0 x18_1).f1).extract 0 ((ji44) : Int).toNat, ji44⟩ : S35)]) := ⟨_, rfl⟩
                replace H : (gafferref02_Crash.l0 kj17 l1 l0_0 (l0_0.length : Int) (wrap64 (x18_1 + 1)) y438 false (-1)) = some (r1, r2, r3, r4) := by first | (rw [hy438]; with_reducible exact H) | (have H2_ := (Option.bind_some _ _).symm.trans H; rw [hy438]; with_reducible exact H2_) | (have H2_ := (Option.bind_some _ _).symm.trans H; with_reducible exact H2_) | with_reducible exact H | (rw [hy438]; exact H) | exact H
                have Ny438 := Aside0.mk hy438
                clear hy438
                have H' := Aside0.mk H
                clear H
                have p436 : 0 ≤ (x18_1 : Int) := of_decide_eq_true (by first | (with_reducible assumption) | assumption)
                have q436 : x18_1 < (l1.length : Int) := of_decide_eq_true (by first | (with_reducible assumption) | assumption)
                obtain ⟨ad436, e436, hx436_0⟩ := Kd.at_int HR1.out x18_1 p436 q436
                cases e436
                replace hx436_0 := (HB.out.cell (World.block_lt_of_cell? w _ hx436_0)).trans hx436_0
                replace p436 := eq_true p436
                replace q436 := eq_true q436
                have p437 : 0 ≤ (x18_1 : Int) := of_decide_eq_true (by first | (with_reducible assumption) | assumption)
                have q437 : x18_1 < (l1.length : Int) := of_decide_eq_true (by first | (with_reducible assumption) | assumption)
                obtain ⟨ad437, e437, hx437_0⟩ := Kd.at_int HR1.out x18_1 p437 q437
                obtain rfl : ad436 = ad437 := (by injection e437)
                replace hx437_0 := (HB.out.cell (World.block_lt_of_cell? w _ hx437_0)).trans hx437_0
                replace p437 := eq_true p437
                replace q437 := eq_true q437
                have hnb48 := NB431_426.out
                have hnc48 := NB426_431.out
                have hnb49 := NB431_427.out
                have hnc49 := NB427_431.out
                have hnb50 := NB431_429.out
                have hnc50 := NB429_431.out
                obtain ⟨hcz51_0, hcz51_1, hcz51_2, hfz51_0, hfz51_1, hfz51_2⟩ := c3_ BK431
                have hnb52 := NB429_426.out
                have hnc52 := NB426_429.out
                have hnb53 := NB429_427.out
                have hnc53 := NB427_429.out
                obtain ⟨hcz54_0, hcz54_1, hcz54_2, hfz54_0, hfz54_1, hfz54_2⟩ := c3_ BK429
                go_wp2_with (first | ((with_reducible refine gate_builtin (b := .append) (xs := #[.tmp 62, .tmp 64]) rfl ?_); at_builtin; refine Kd.R_append k35 (w0 := w) w.heap.size rfl (.tmp 62) (.tmp 64) 22 35 (.agg #[(.string ⟨#[]⟩), (.string ⟨#[]⟩), (.int .i64 0)]) 40 rfl Try.underlying22 info35 rfl (by decide) (by omega) u430000 x430000_1 (⟨((rd_T35 l0_0 x18_1).f0), ((rd_T35 l0_0 x18_1).f1).extract 0 ((ji44) : Int).toNat, ji44⟩ : S35) [.string ((rd_T35 l0_0 x18_1).f0), .string (((rd_T35 l0_0 x18_1).f1).extract 0 ((ji44) : Int).toNat), .int .i64 ji44] (fun k_ => k_ ≠ gb431) (fun _ => False) rfl (by first | (go_simp; done) | (go_simp; rfl)) ?aP (fun _ hk => hk.elim) ?aF ?aO ?aB ?aS ?aL ?_; (case aP => exact k35_mkM _ _ _ (⟨((rd_T35 l0_0 x18_1).f0), ((rd_T35 l0_0 x18_1).f1).extract 0 ((ji44) : Int).toNat, ji44⟩ : S35)); (case aB => exact (bl_4 HB GE426 GE427 GE429 GE431)); (case aF => exact (fun k_ hk => Kd.freshB (g := gb431) (o := .cells #[.string ((rd_T35 l0_0 x18_1).f0), .string (((rd_T35 l0_0 x18_1).f1).extract 0 ((ji44) : Int).toNat), .int .i64 ji44] 35 (0, 0)) (bp_0 BK431) k_ hk)); (case aO => exact (by (with_reducible repeat (first | apply Kd.R_alloc | apply Kd.R_drewN | apply Kd.R_drew)); exact Kd.R_mono (Kd.R_far (p := ⟨gb431, 1, none⟩) (Kd.R_far (p := ⟨gb431, 2, none⟩) (Kd.R_mono HO_430000.out (fun k_ hk => (⟨hk, hk⟩ : _ ∧ k_ ≠ gb431))) (fun _ hk => hk.2) (.int .i64 ji44)) (fun _ hk => hk.2) (.string (((rd_T35 l0_0 x18_1).f1).extract 0 ((ji44) : Int).toNat))) (fun _ hk => hk.1))); (case aS => exact (below_size (bl_4 HB GE426 GE427 GE429 GE431))); (case aL => have := LMc47.out; omega); intro v439 w55 ho hb hg hat; rw [← Ny438.out] at ho; replace BK426 := Aside0.mk (blk_grown (g := gb426) (o := .cells #[.slice (some ad430) l0_0.length c0_0, .bool a0_1, .int .i64 a0_2] 24 (0, 0)) (bp_1 BK426 NB426_431) hg (Kd.R_ne HO_430000.out BK426.out (by decide))); replace BK427 := Aside0.mk (blk_grown (g := gb427) (o := .cells #[.slice none 0 0, .bool false, .int .i64 0] 24 (0, 0)) (bp_1 BK427 NB427_431) hg (Kd.R_ne HO_430000.out BK427.out (by decide))); replace BK429 := Aside0.mk (blk_grown (g := gb429) (o := .cells #[u430000, .bool false, .int .i64 (-1)] 24 (0, 0)) (bp_1 BK429 NB429_431) hg (Kd.R_ne HO_430000.out BK429.out (by decide))); replace BK431 := Aside0.mk (blk_grown (g := gb431) (o := .cells #[.string ((rd_T35 l0_0 x18_1).f0), .string (((rd_T35 l0_0 x18_1).f1).extract 0 ((ji44) : Int).toNat), .int .i64 ji44] 35 (0, 0)) (bp_0 BK431) hg (Kd.R_away HO_430000.out (fun _ hk => hk))); replace HB := Aside0.mk (hb); have HO440 := Aside0.mk (ho); clear HO_430000; clear ho hb hg hat; obtain ⟨Ao56, co56, eo56⟩ := Kd.R_slice HO440.out; subst eo56; obtain ⟨hcz57_0, hcz57_1, hcz57_2, hfz57_0, hfz57_1, hfz57_2⟩ := c3_ BK429))
                go_roundg kj17
                case measure => have := HK1.out; have := HJ17.out; omega
                case rel => exact ⟨(wrap64 (x18_1 + 1)), (y438), (.slice Ao56 y438.length co56), (by first | rfl | (simp; done) | (simp [*]; done)), H', ⟨by have := HK1.out; have := HJ17.out; omega⟩, ⟨by (with_reducible repeat (first | apply Kd.R_alloc | apply Kd.R_drewN | apply Kd.R_drew)); exact Kd.R_mono (Kd.R_far (p := ⟨gb429, 0, none⟩) (Kd.R_types HO440.out BK429.out (by decide)) (fun _ hk => hk.2) (.slice Ao56 y438.length co56)) (fun _ hk => trivial)⟩, ⟨by (with_reducible repeat (first | refine blk_drewN ?_ _ | refine blk_drew ?_ | refine blk_alloc ?_ _)); refine blk_far ?_ NB426_429.out _; (with_reducible repeat (first | refine blk_drewN ?_ _ | refine blk_drew ?_ | refine blk_alloc ?_ _)); exact BK426.out⟩, ⟨by (with_reducible repeat (first | refine blk_drewN ?_ _ | refine blk_drew ?_ | refine blk_alloc ?_ _)); refine blk_far ?_ NB427_429.out _; (with_reducible repeat (first | refine blk_drewN ?_ _ | refine blk_drew ?_ | refine blk_alloc ?_ _)); exact BK427.out⟩, ⟨by (with_reducible repeat (first | refine blk_drewN ?_ _ | refine blk_drew ?_ | refine blk_alloc ?_ _)); refine blk_put (cs := #[u430000, .bool false, .int .i64 (-1)]) ?_ 0 _ rfl; (with_reducible repeat (first | refine blk_drewN ?_ _ | refine blk_drew ?_ | refine blk_alloc ?_ _)); exact BK429.out⟩, ⟨bl_4 HB GE426 GE427 GE429 GE431⟩⟩
               ·rw [if_neg c47] at H
                exact absurd H (by simp)
              ·rw [if_neg c46] at H
               exact absurd H (by simp)
             ·rw [if_neg c45] at H
              exact absurd H (by simp)
            ·rw [if_neg c43] at H
             have c43b0 : decide ((rd l1 x18_1) < (wrap64 ((((rd_T35 l0_0 x18_1).f1).size : Int) - ((rd_T35 l0_0 x18_1).f2)))) = false := decide_eq_false c43
             clear c43
             obtain ⟨ji58, hji58⟩ : ∃ j_ : Int, (wrap64 (((rd_T35 l0_0 x18_1).f2) + (wrap64 ((((rd_T35 l0_0 x18_1).f1).size : Int) - ((rd_T35 l0_0 x18_1).f2))))) = j_ := ⟨_, rfl⟩
             replace H : (if 0 ≤ (ji58) then (if (ji58) ≤ (((rd_T35 l0_0 x18_1).f1).size : Int) then (if x430000_1.length < 3518437208883 then (gafferref02_Crash.l0 kj17 l1 l0_0 (l0_0.length : Int) (wrap64 (x18_1 + 1)) (x430000_1 ++ [(⟨((rd_T35 l0_0 x18_1).f0), ((rd_T35 l0_0 x18_1).f1).extract 0 ((ji58) : Int).toNat, ji58⟩ : S35)]) false (-1)) else (none)) else (none)) else (none)) = some (r1, r2, r3, r4) := by first | (rw [hji58] at H; exact H) | (simp only [hji58] at H ⊢; exact H)
             have hji58w : (IntKind.i64.wrap (((rd_T35 l0_0 x18_1).f2) + (wrap64 ((((rd_T35 l0_0 x18_1).f1).size : Int) - ((rd_T35 l0_0 x18_1).f2))))) = ji58 := (i64_w _).trans hji58
             by_cases c59 : 0 ≤ (ji58)
             ·rw [if_pos c59] at H
              have c59b0 := eq_true c59
              have c59b1 : decide (0 ≤ (ji58)) = true := decide_eq_true c59
              clear c59
              by_cases c60 : (ji58) ≤ (((rd_T35 l0_0 x18_1).f1).size : Int)
              ·rw [if_pos c60] at H
               have c60b0 := eq_true c60
               have c60b1 : decide ((ji58) ≤ (((rd_T35 l0_0 x18_1).f1).size : Int)) = true := decide_eq_true c60
               clear c60
               by_cases c61 : x430000_1.length < 3518437208883
               ·rw [if_pos c61] at H
                have LMc61 := Aside0.mk c61
                clear c61
                obtain ⟨y441, hy441⟩ : ∃ y_ : List (S35), y_ = (x430000_1 ++ [(⟨((rd_T35 l0_0 x18_1).f0), ((rd_T35 l0_0 x18_1).f1).extract 0 ((ji58) : Int).toNat, ji58⟩ : S35)]) := ⟨_, rfl⟩
                replace H : (gafferref02_Crash.l0 kj17 l1 l0_0 (l0_0.length : Int) (wrap64 (x18_1 + 1)) y441 false (-1)) = some (r1, r2, r3, r4) := by first | (rw [hy441]; with_reducible exact H) | (have H2_ := (Option.bind_some _ _).symm.trans H; rw [hy441]; with_reducible exact H2_) | (have H2_ := (Option.bind_some _ _).symm.trans H; with_reducible exact H2_) | with_reducible exact H | (rw [hy441]; exact H) | exact H
                have Ny441 := Aside0.mk hy441
                clear hy441
                have H' := Aside0.mk H
                clear H
                have p436 : 0 ≤ (x18_1 : Int) := of_decide_eq_true (by first | (with_reducible assumption) | assumption)
                have q436 : x18_1 < (l1.length : Int) := of_decide_eq_true (by first | (with_reducible assumption) | assumption)
                obtain ⟨ad436, e436, hx436_0⟩ := Kd.at_int HR1.out x18_1 p436 q436
                cases e436
                replace hx436_0 := (HB.out.cell (World.block_lt_of_cell? w _ hx436_0)).trans hx436_0
                replace p436 := eq_true p436
                replace q436 := eq_true q436
                have hnb62 := NB431_426.out
                have hnc62 := NB426_431.out
                have hnb63 := NB431_427.out
                have hnc63 := NB427_431.out
                have hnb64 := NB431_429.out
                have hnc64 := NB429_431.out
                obtain ⟨hcz65_0, hcz65_1, hcz65_2, hfz65_0, hfz65_1, hfz65_2⟩ := c3_ BK431
                have hnb66 := NB429_426.out
                have hnc66 := NB426_429.out
                have hnb67 := NB429_427.out
                have hnc67 := NB427_429.out
                obtain ⟨hcz68_0, hcz68_1, hcz68_2, hfz68_0, hfz68_1, hfz68_2⟩ := c3_ BK429
                go_wp2_with (first | ((with_reducible refine gate_builtin (b := .append) (xs := #[.tmp 62, .tmp 64]) rfl ?_); at_builtin; refine Kd.R_append k35 (w0 := w) w.heap.size rfl (.tmp 62) (.tmp 64) 22 35 (.agg #[(.string ⟨#[]⟩), (.string ⟨#[]⟩), (.int .i64 0)]) 40 rfl Try.underlying22 info35 rfl (by decide) (by omega) u430000 x430000_1 (⟨((rd_T35 l0_0 x18_1).f0), ((rd_T35 l0_0 x18_1).f1).extract 0 ((ji58) : Int).toNat, ji58⟩ : S35) [.string ((rd_T35 l0_0 x18_1).f0), .string (((rd_T35 l0_0 x18_1).f1).extract 0 ((ji58) : Int).toNat), .int .i64 ji58] (fun k_ => k_ ≠ gb431) (fun _ => False) rfl (by first | (go_simp; done) | (go_simp; rfl)) ?aP (fun _ hk => hk.elim) ?aF ?aO ?aB ?aS ?aL ?_; (case aP => exact k35_mkM _ _ _ (⟨((rd_T35 l0_0 x18_1).f0), ((rd_T35 l0_0 x18_1).f1).extract 0 ((ji58) : Int).toNat, ji58⟩ : S35)); (case aB => exact (bl_4 HB GE426 GE427 GE429 GE431)); (case aF => exact (fun k_ hk => Kd.freshB (g := gb431) (o := .cells #[.string ((rd_T35 l0_0 x18_1).f0), .string (((rd_T35 l0_0 x18_1).f1).extract 0 ((ji58) : Int).toNat), .int .i64 ji58] 35 (0, 0)) (bp_0 BK431) k_ hk)); (case aO => exact (by (with_reducible repeat (first | apply Kd.R_alloc | apply Kd.R_drewN | apply Kd.R_drew)); exact Kd.R_mono (Kd.R_far (p := ⟨gb431, 1, none⟩) (Kd.R_far (p := ⟨gb431, 2, none⟩) (Kd.R_mono HO_430000.out (fun k_ hk => (⟨hk, hk⟩ : _ ∧ k_ ≠ gb431))) (fun _ hk => hk.2) (.int .i64 ji58)) (fun _ hk => hk.2) (.string (((rd_T35 l0_0 x18_1).f1).extract 0 ((ji58) : Int).toNat))) (fun _ hk => hk.1))); (case aS => exact (below_size (bl_4 HB GE426 GE427 GE429 GE431))); (case aL => have := LMc61.out; omega); intro v442 w69 ho hb hg hat; rw [← Ny441.out] at ho; replace BK426 := Aside0.mk (blk_grown (g := gb426) (o := .cells #[.slice (some ad430) l0_0.length c0_0, .bool a0_1, .int .i64 a0_2] 24 (0, 0)) (bp_1 BK426 NB426_431) hg (Kd.R_ne HO_430000.out BK426.out (by decide))); replace BK427 := Aside0.mk (blk_grown (g := gb427) (o := .cells #[.slice none 0 0, .bool false, .int .i64 0] 24 (0, 0)) (bp_1 BK427 NB427_431) hg (Kd.R_ne HO_430000.out BK427.out (by decide))); replace BK429 := Aside0.mk (blk_grown (g := gb429) (o := .cells #[u430000, .bool false, .int .i64 (-1)] 24 (0, 0)) (bp_1 BK429 NB429_431) hg (Kd.R_ne HO_430000.out BK429.out (by decide))); replace BK431 := Aside0.mk (blk_grown (g := gb431) (o := .cells #[.string ((rd_T35 l0_0 x18_1).f0), .string (((rd_T35 l0_0 x18_1).f1).extract 0 ((ji58) : Int).toNat), .int .i64 ji58] 35 (0, 0)) (bp_0 BK431) hg (Kd.R_away HO_430000.out (fun _ hk => hk))); replace HB := Aside0.mk (hb); have HO443 := Aside0.mk (ho); clear HO_430000; clear ho hb hg hat; obtain ⟨Ao70, co70, eo70⟩ := Kd.R_slice HO443.out; subst eo70; obtain ⟨hcz71_0, hcz71_1, hcz71_2, hfz71_0, hfz71_1, hfz71_2⟩ := c3_ BK429))
                go_roundg kj17
                case measure => have := HK1.out; have := HJ17.out; omega
                case rel => exact ⟨(wrap64 (x18_1 + 1)), (y441), (.slice Ao70 y441.length co70), (by first | rfl | (simp; done) | (simp [*]; done)), H', ⟨by have := HK1.out; have := HJ17.out; omega⟩, ⟨by (with_reducible repeat (first | apply Kd.R_alloc | apply Kd.R_drewN | apply Kd.R_drew)); exact Kd.R_mono (Kd.R_far (p := ⟨gb429, 0, none⟩) (Kd.R_types HO443.out BK429.out (by decide)) (fun _ hk => hk.2) (.slice Ao70 y441.length co70)) (fun _ hk => trivial)⟩, ⟨by (with_reducible repeat (first | refine blk_drewN ?_ _ | refine blk_drew ?_ | refine blk_alloc ?_ _)); refine blk_far ?_ NB426_429.out _; (with_reducible repeat (first | refine blk_drewN ?_ _ | refine blk_drew ?_ | refine blk_alloc ?_ _)); exact BK426.out⟩, ⟨by (with_reducible repeat (first | refine blk_drewN ?_ _ | refine blk_drew ?_ | refine blk_alloc ?_ _)); refine blk_far ?_ NB427_429.out _; (with_reducible repeat (first | refine blk_drewN ?_ _ | refine blk_drew ?_ | refine blk_alloc ?_ _)); exact BK427.out⟩, ⟨by (with_reducible repeat (first | refine blk_drewN ?_ _ | refine blk_drew ?_ | refine blk_alloc ?_ _)); refine blk_put (cs := #[u430000, .bool false, .int .i64 (-1)]) ?_ 0 _ rfl; (with_reducible repeat (first | refine blk_drewN ?_ _ | refine blk_drew ?_ | refine blk_alloc ?_ _)); exact BK429.out⟩, ⟨bl_4 HB GE426 GE427 GE429 GE431⟩⟩
               ·rw [if_neg c61] at H
                exact absurd H (by simp)
              ·rw [if_neg c60] at H
               exact absurd H (by simp)
             ·rw [if_neg c59] at H
              exact absurd H (by simp)
           ·rw [if_neg c42] at H
            exact absurd H (by simp)
          ·rw [if_neg c41] at H
           exact absurd H (by simp)
      ·rw [if_neg c17] at H
       exact absurd H (by simp)
     ·rw [if_neg c16] at H
      exact absurd H (by simp)
    ·rw [if_neg c15] at H
     have c15b0 : decide (x18_1 < (l0_0.length : Int)) = false := decide_eq_false c15
     clear c15
     simp only [Option.some.injEq, Prod.mk.injEq] at H
     obtain ⟨rfl, rfl, rfl, rfl⟩ := H
     have hnb72 := NB429_426.out
     have hnc72 := NB426_429.out
     have hnb73 := NB429_427.out
     have hnc73 := NB427_429.out
     obtain ⟨hcz74_0, hcz74_1, hcz74_2, hfz74_0, hfz74_1, hfz74_2⟩ := c3_ BK429
     obtain ⟨Ao75, co75, eo75⟩ := Kd.R_slice HO_430000.out
     subst eo75
     have hnb76 := NB427_426.out
     have hnc76 := NB426_427.out
     obtain ⟨hcz77_0, hcz77_1, hcz77_2, hfz77_0, hfz77_1, hfz77_2⟩ := c3_ BK427
     go_wp2
     refine bodyPost_ret (results_ct rfl _ _ gb427 24 #[.slice Ao75 x430000_1.length co75, .bool false, .int .i64 (-1)] (0, 0) _ rfl (bp_0 BK427) Try.underlying24 rfl (by kernel_rfl)) rfl ?_
     exact ⟨_, by first | rfl | (simp; done) | (simp [*]; done), by (with_reducible repeat (first | apply Kd.R_alloc | apply Kd.R_drewN | apply Kd.R_drew)); exact Kd.R_mono (Kd.R_far (p := ⟨gb427, 2, none⟩) (Kd.R_far (p := ⟨gb427, 1, none⟩) (Kd.R_far (p := ⟨gb427, 0, none⟩) (Kd.R_types HO_430000.out BK427.out (by decide)) (fun _ hk => hk.2) (.slice Ao75 x430000_1.length co75)) (fun _ hk => hk.2) (.bool false)) (fun _ hk => hk.2) (.int .i64 (-1))) (fun _ hk => trivial), bl_3 HB GE426 GE427 GE429⟩
 ·rw [if_neg c4] at H
  have c4b0 : (t428 == 0) = false := beq_eq_false_iff_ne.mpr c4
  have c4b1 : (t428 != 0) = true := bne_iff_ne.mpr c4
  simp only [Option.some.injEq, Prod.mk.injEq] at H
  obtain ⟨rfl, rfl, rfl, rfl⟩ := H
  go_enter Try.func13, Try.ntmps13
  go_wp2_with (first | ((with_reducible refine gate_dst (N := 2) rfl ?_); refine box_event ?hg (N := 2) ?hd (cs := #[.slice A0_0 l0_0.length c0_0, .bool a0_1, .int .i64 a0_2]) (t := 24) ?hr ?_; (case hd => rfl); (case hg => rfl); (case hr => first | (go_simp; done) | (go_simp; rfl)); intro gb426 hg w78 hbox hb; have BK426 := Aside0.mk (hbox); have GW426 := Aside0.mk (bs_0 hg HB); have GE426 := Aside0.mk (bs_0 hg HB); replace HB := Aside0.mk (below_step (bl_ HB) hb); clear hb hbox hg) | ((with_reducible refine gate_dst (N := 4) rfl ?_); refine box_event ?hg (N := 4) ?hd (cs := #[.slice none 0 0, .bool false, .int .i64 0]) (t := 24) ?hr ?_; (case hd => rfl); (case hg => rfl); (case hr => first | (go_simp; done) | (go_simp; rfl)); intro gb427 hg w79 hbox hb; have BK427 := Aside0.mk (hbox); have GW427 := Aside0.mk (bs_1 hg HB GE426); have GE427 := Aside0.mk (bs_1 hg HB GE426); replace HB := Aside0.mk (below_step (bl_1 HB GE426) hb); have NB426_427 := Aside0.mk (nb_ hg BK426); have NB427_426 := Aside0.mk (nc_ hg BK426); replace BK426 := Aside0.mk (bb_ BK426 hb); clear hb hbox hg; have hnb80 := NB426_427.out; have hnc80 := NB427_426.out; obtain ⟨hcz81_0, hcz81_1, hcz81_2, hfz81_0, hfz81_1, hfz81_2⟩ := c3_ BK426) | ((with_reducible refine gate_callee (f := 31) rfl ?_); refine goesL_ (some 11) rfl rfl Try.func31 (by kernel_rfl) rfl #[.agg #[.slice A0_0 l0_0.length c0_0, .bool a0_1, .int .i64 a0_2]] rfl (ar_) ?_; (with_reducible refine (gafferref02_Check.calls k _ _ l0_0 a0_1 a0_2 t428 _ ?side1 ?side2 A3.out).mono ?_); (case side1 => repeat (first | exact (Kd.C_below HR0_0.out HB.out) | (with_reducible refine Kd.C_alloc ?_ _) | (with_reducible refine Kd.C_drewN ?_ _) | (with_reducible refine Kd.C_drew ?_))); (case side2 => exact HC0_0.out); rintro e w82 ⟨rfl, hb⟩; refine ⟨_, rfl, ?_⟩; replace BK426 := Aside0.mk (bb_ BK426 hb); replace BK427 := Aside0.mk (bb_ BK427 hb); replace HB := Aside0.mk (below_step (bl_2 HB GE426 GE427) hb); (try clear hb); (try clear hb2); (try clear hk); (try clear hi); obtain ⟨hcz83_0, hcz83_1, hcz83_2, hfz83_0, hfz83_1, hfz83_2⟩ := c3_ BK427))
  refine bodyPost_ret (results_ct rfl _ _ gb427 24 #[.slice none 0 0, .bool false, .int .i64 0] (0, 0) _ rfl (bp_0 BK427) Try.underlying24 rfl (by kernel_rfl)) rfl ?_
  exact ⟨_, by first | rfl | (simp; done) | (simp [*]; done), by first | exact Kd.R_nil _ _ _ _ _ | exact Kd.N_nil _ _ _ _ _ | exact Kd.V_nil _ _ _ _ _ | exact Kd.Q_nil _ _ _ _ _ | exact Kd.S_nil _ _ _ _ _, bl_2 HB GE426 GE427⟩

/-! ### gafferlaw02_DiskCrashes: function 3 -/
def gafferlaw02_DiskCrashes.f (k : Nat) (l0_0 : List (S35)) (a0_1 : Bool) (a0_2 : Int) (l1 : List Int) : Option (Bool) := (gafferref02_Copy.f l0_0 a0_1 a0_2).bind fun bt445 => ((disk_Crash.f k bt445.1 bt445.2.1 bt445.2.2 l1).bind fun bt451 => ((gafferref02_Crash.f k l0_0 a0_1 a0_2 l1).bind fun bt458 => ((gafferlaw02_lives.f k).bind fun t465 => (if t465 = true then ((gafferref02_Same.f k bt451.1 bt451.2.1 bt451.2.2.1 bt458.1 bt458.2.1 bt458.2.2.1).bind fun t466 => (if t466 = true then (if bt451.2.2.2 = bt458.2.2.2 then ((gafferref02_Same.f k bt445.1 bt445.2.1 bt445.2.2 l0_0 a0_1 a0_2).bind fun t467 => (some t467)) else (some false)) else (some false))) else (some false)))))
theorem gafferlaw02_DiskCrashes.mono : ∀ a0 a1 a2 a3 k, LeO (gafferlaw02_DiskCrashes.f k a0 a1 a2 a3) (gafferlaw02_DiskCrashes.f (k + 1) a0 a1 a2 a3) := by
 intro a0 a1 a2 a3 k
 unfold gafferlaw02_DiskCrashes.f
 repeat' first
   | (with_reducible exact disk_Crash.mono _ _ _ _ _)
   | (with_reducible exact gafferlaw02_lives.mono _)
   | (with_reducible exact gafferref02_Crash.mono _ _ _ _ _)
   | (with_reducible exact gafferref02_Same.mono _ _ _ _ _ _ _)
   | (with_reducible exact LeO.refl _)
   | (with_reducible exact LeO.none _)
   | (with_reducible refine LeO.ite ?_ ?_)
   | (with_reducible refine LeO.bind ?_ (fun _ => ?_))
   | exact disk_Crash.mono _ _ _ _ _
   | exact gafferlaw02_lives.mono _
   | exact gafferref02_Crash.mono _ _ _ _ _
   | exact gafferref02_Same.mono _ _ _ _ _ _ _
   | exact LeO.none _
   | refine LeO.ite ?_ ?_
   | refine LeO.bind ?_ (fun _ => ?_)
set_option maxHeartbeats 80000000 in
set_option maxRecDepth 100000 in
theorem gafferlaw02_DiskCrashes.calls (k : Nat) (A0_0 : Option Addr) (c0_0 : Nat) (l0_0 : List (S35)) (a0_1 : Bool) (a0_2 : Int) (A1 : Option Addr) (c1 : Nat) (l1 : List Int) (r : Bool) (w : World) (hr0_0 : Kd.C k35 w A0_0 l0_0.length l0_0) (hc0_0 : l0_0.length ≤ c0_0) (hr1 : Kd.C (Kd.int .i64) w A1 l1.length l1) (hc1 : l1.length ≤ c1) (h : gafferlaw02_DiskCrashes.f k l0_0 a0_1 a0_2 l1 = some r) (hr : r = true) :
  Calls Try.prog 3 #[.agg #[.slice A0_0 l0_0.length c0_0, .bool a0_1, .int .i64 a0_2], .slice A1 l1.length c1] w fun e w' => e = .returned (.bool r) ∧ Below w.heap.size w w' := by
 have hu24 := Try.underlying24
 have HR0_0 := Aside0.mk hr0_0
 have HC0_0 := Aside0.mk hc0_0
 clear hr0_0 hc0_0
 have HR1 := Aside0.mk hr1
 have HC1 := Aside0.mk hc1
 clear hr1 hc1
 have HB := Aside0.mk (Below.refl w.heap.size w)
 have H : ((gafferref02_Copy.f l0_0 a0_1 a0_2).bind fun bt445 => ((disk_Crash.f k bt445.1 bt445.2.1 bt445.2.2 l1).bind fun bt451 => ((gafferref02_Crash.f k l0_0 a0_1 a0_2 l1).bind fun bt458 => ((gafferlaw02_lives.f k).bind fun t465 => (if t465 = true then ((gafferref02_Same.f k bt451.1 bt451.2.1 bt451.2.2.1 bt458.1 bt458.2.1 bt458.2.2.1).bind fun t466 => (if t466 = true then (if bt451.2.2.2 = bt458.2.2.2 then ((gafferref02_Same.f k bt445.1 bt445.2.1 bt445.2.2 l0_0 a0_1 a0_2).bind fun t467 => (some t467)) else (some false)) else (some false))) else (some false)))))) = some r := h
 clear h
 replace H := Option.bind_eq_some_iff.mp H
 obtain ⟨⟨t445, t448, t449⟩, A30, H⟩ := H
 replace H : ((disk_Crash.f k t445 t448 t449 l1).bind fun bt451 => ((gafferref02_Crash.f k l0_0 a0_1 a0_2 l1).bind fun bt458 => ((gafferlaw02_lives.f k).bind fun t465 => (if t465 = true then ((gafferref02_Same.f k bt451.1 bt451.2.1 bt451.2.2.1 bt458.1 bt458.2.1 bt458.2.2.1).bind fun t466 => (if t466 = true then (if bt451.2.2.2 = bt458.2.2.2 then ((gafferref02_Same.f k t445 t448 t449 l0_0 a0_1 a0_2).bind fun t467 => (some t467)) else (some false)) else (some false))) else (some false))))) = some r := H
 have A3 := Aside0.mk A30
 clear A30
 replace H := Option.bind_eq_some_iff.mp H
 obtain ⟨⟨t451, t454, t455, t456⟩, A40, H⟩ := H
 replace H : ((gafferref02_Crash.f k l0_0 a0_1 a0_2 l1).bind fun bt458 => ((gafferlaw02_lives.f k).bind fun t465 => (if t465 = true then ((gafferref02_Same.f k t451 t454 t455 bt458.1 bt458.2.1 bt458.2.2.1).bind fun t466 => (if t466 = true then (if t456 = bt458.2.2.2 then ((gafferref02_Same.f k t445 t448 t449 l0_0 a0_1 a0_2).bind fun t467 => (some t467)) else (some false)) else (some false))) else (some false)))) = some r := H
 have A4 := Aside0.mk A40
 clear A40
 replace H := Option.bind_eq_some_iff.mp H
 obtain ⟨⟨t458, t461, t462, t463⟩, A50, H⟩ := H
 replace H : ((gafferlaw02_lives.f k).bind fun t465 => (if t465 = true then ((gafferref02_Same.f k t451 t454 t455 t458 t461 t462).bind fun t466 => (if t466 = true then (if t456 = t463 then ((gafferref02_Same.f k t445 t448 t449 l0_0 a0_1 a0_2).bind fun t467 => (some t467)) else (some false)) else (some false))) else (some false))) = some r := H
 have A5 := Aside0.mk A50
 clear A50
 replace H := Option.bind_eq_some_iff.mp H
 obtain ⟨t465, A60, H⟩ := H
 replace H : (if t465 = true then ((gafferref02_Same.f k t451 t454 t455 t458 t461 t462).bind fun t466 => (if t466 = true then (if t456 = t463 then ((gafferref02_Same.f k t445 t448 t449 l0_0 a0_1 a0_2).bind fun t467 => (some t467)) else (some false)) else (some false))) else (some false)) = some r := H
 have A6 := Aside0.mk A60
 clear A60
 by_cases c7 : t465 = true
 ·subst c7
  have H1 : ((gafferref02_Same.f k t451 t454 t455 t458 t461 t462).bind fun t466 => (if t466 = true then (if t456 = t463 then ((gafferref02_Same.f k t445 t448 t449 l0_0 a0_1 a0_2).bind fun t467 => (some t467)) else (some false)) else (some false))) = some r := by rw [if_pos rfl] at H; exact H
  clear H
  have H := H1
  clear H1
  replace H := Option.bind_eq_some_iff.mp H
  obtain ⟨t466, A80, H⟩ := H
  replace H : (if t466 = true then (if t456 = t463 then ((gafferref02_Same.f k t445 t448 t449 l0_0 a0_1 a0_2).bind fun t467 => (some t467)) else (some false)) else (some false)) = some r := H
  have A8 := Aside0.mk A80
  clear A80
  by_cases c9 : t466 = true
  ·subst c9
   have H1 : (if t456 = t463 then ((gafferref02_Same.f k t445 t448 t449 l0_0 a0_1 a0_2).bind fun t467 => (some t467)) else (some false)) = some r := by rw [if_pos rfl] at H; exact H
   clear H
   have H := H1
   clear H1
   by_cases c10 : t456 = t463
   ·rw [if_pos c10] at H
    have c10b0 : (t456 == t463) = true := beq_iff_eq.mpr c10
    have c10b1 : (t456 != t463) = false := bne_eq_false_iff_eq.mpr c10
    clear c10
    replace H := Option.bind_eq_some_iff.mp H
    obtain ⟨t467, A110, H⟩ := H
    replace H : (some t467) = some r := H
    have A11 := Aside0.mk A110
    clear A110
    obtain rfl := Option.some.inj H
    go_enter Try.func3, Try.ntmps3
    go_wp2_with (first | ((with_reducible refine gate_dst (N := 2) rfl ?_); refine box_event ?hg (N := 2) ?hd (cs := #[.slice A0_0 l0_0.length c0_0, .bool a0_1, .int .i64 a0_2]) (t := 24) ?hr ?_; (case hd => rfl); (case hg => rfl); (case hr => first | (go_simp; done) | (go_simp; rfl)); intro gb444 hg w12 hbox hb; have BK444 := Aside0.mk (hbox); have GW444 := Aside0.mk (bs_0 hg HB); have GE444 := Aside0.mk (bs_0 hg HB); replace HB := Aside0.mk (below_step (bl_ HB) hb); clear hb hbox hg; obtain ⟨hcz13_0, hcz13_1, hcz13_2, hfz13_0, hfz13_1, hfz13_2⟩ := c3_ BK444) | ((with_reducible refine gate_callee (f := 11) rfl ?_); refine goesL_ (some 11) rfl rfl Try.func11 (by kernel_rfl) rfl #[.agg #[.slice A0_0 l0_0.length c0_0, .bool a0_1, .int .i64 a0_2]] rfl (ar_) ?_; (with_reducible refine (gafferref02_Copy.calls _ _ l0_0 a0_1 a0_2 t445 t448 t449 _ ?side1 ?side2 A3.out).mono ?_); (case side1 => repeat (first | exact (Kd.C_below HR0_0.out HB.out) | (with_reducible refine Kd.C_alloc ?_ _) | (with_reducible refine Kd.C_drewN ?_ _) | (with_reducible refine Kd.C_drew ?_))); (case side2 => exact HC0_0.out); rintro e w14 ⟨v446, rfl, ho0, hb⟩; refine ⟨_, rfl, ?_⟩; have HO447 := Aside0.mk (Kd.R_lower ho0 (below_size (bl_1 HB GE444))); replace BK444 := Aside0.mk (bb_ BK444 hb); replace HB := Aside0.mk (below_step (bl_1 HB GE444) hb); (try clear hb); (try clear hb2); (try clear hk); (try clear hi); (try clear ho0)) | ((with_reducible refine gate_dst (N := 5) rfl ?_); refine box_event ?hg (N := 5) ?hd (cs := #[.slice none 0 0, .bool false, .int .i64 0]) (t := 24) ?hr ?_; (case hd => rfl); (case hg => rfl); (case hr => first | (go_simp; done) | (go_simp; rfl)); intro gb450 hg w15 hbox hb; replace HO447 := Aside0.mk (Kd.R_below (by (with_reducible repeat (first | apply Kd.R_alloc | apply Kd.R_drewN | apply Kd.R_drew)); exact HO447.out) hb); have BK450 := Aside0.mk (hbox); have GW450 := Aside0.mk (bs_1 hg HB GE444); have GE450 := Aside0.mk (bs_1 hg HB GE444); replace HB := Aside0.mk (below_step (bl_1 HB GE444) hb); have NB444_450 := Aside0.mk (nb_ hg BK444); have NB450_444 := Aside0.mk (nc_ hg BK444); replace BK444 := Aside0.mk (bb_ BK444 hb); clear hb hbox hg; obtain ⟨Ao16, co16, eo16⟩ := Kd.R_slice HO447.out; subst eo16; have hnb17 := NB450_444.out; have hnc17 := NB444_450.out; obtain ⟨hcz18_0, hcz18_1, hcz18_2, hfz18_0, hfz18_1, hfz18_2⟩ := c3_ BK450) | ((with_reducible refine gate_callee (f := 12) rfl ?_); refine goesL_ (some 15) rfl rfl Try.func12 (by kernel_rfl) rfl #[.agg #[.slice Ao16 t445.length co16, .bool t448, .int .i64 t449], .slice A1 l1.length c1] rfl (ar_) ?_; (with_reducible refine (disk_Crash.calls k _ _ t445 t448 t449 _ _ l1 t451 t454 t455 t456 _ ?side1 ?side2 ?side3 ?side4 A4.out).mono ?_); (case side1 => refine (Kd.R_reads' (e := 35) (base := w.heap.size) (ok := fun k_ => True) (n := t445.length) (c := co16) ?_).2.2; exact (by (with_reducible repeat (first | apply Kd.R_alloc | apply Kd.R_drewN | apply Kd.R_drew)); exact (Kd.R_mono (Kd.R_far (p := ⟨gb450, 2, none⟩) (Kd.R_far (p := ⟨gb450, 1, none⟩) (Kd.R_far (p := ⟨gb450, 0, none⟩) (Kd.R_types HO447.out BK450.out (by decide)) (fun _ hk => hk.2) (.slice Ao16 t445.length co16)) (fun _ hk => hk.2) (.bool t448)) (fun _ hk => hk.2) (.int .i64 t449)) (fun _ h_ => h_.1)))); (case side2 => exact (Kd.R_reads' HO447.out).2.1); (case side3 => exact Kd.C_below HR1.out (bl_2 HB GE444 GE450)); (case side4 => exact HC1.out); rintro e w19 ⟨v452, rfl, ho0, hb⟩; refine ⟨_, rfl, ?_⟩; have HO453 := Aside0.mk (Kd.R_lower (Kd.R_new' ho0 (Kd.R_lt (by (with_reducible repeat (first | apply Kd.R_alloc | apply Kd.R_drewN | apply Kd.R_drew)); exact (Kd.R_mono (Kd.R_far (p := ⟨gb450, 2, none⟩) (Kd.R_far (p := ⟨gb450, 1, none⟩) (Kd.R_far (p := ⟨gb450, 0, none⟩) (Kd.R_types HO447.out BK450.out (by decide)) (fun _ hk => hk.2) (.slice Ao16 t445.length co16)) (fun _ hk => hk.2) (.bool t448)) (fun _ hk => hk.2) (.int .i64 t449)) (fun _ h_ => h_.1))))) (below_size (bl_2 HB GE444 GE450))); replace HO447 := Aside0.mk (Kd.R_elder' (by (with_reducible repeat (first | apply Kd.R_alloc | apply Kd.R_drewN | apply Kd.R_drew)); exact (Kd.R_mono (Kd.R_far (p := ⟨gb450, 2, none⟩) (Kd.R_far (p := ⟨gb450, 1, none⟩) (Kd.R_far (p := ⟨gb450, 0, none⟩) (Kd.R_types HO447.out BK450.out (by decide)) (fun _ hk => hk.2) (.slice Ao16 t445.length co16)) (fun _ hk => hk.2) (.bool t448)) (fun _ hk => hk.2) (.int .i64 t449)) (fun _ h_ => h_.1))) (Kd.R_base ho0) hb); replace BK444 := Aside0.mk (blk_below (g := gb444) (o := .cells #[.slice A0_0 l0_0.length c0_0, .bool a0_1, .int .i64 a0_2] 24 (0, 0)) (bp_1 BK444 NB444_450) hb); replace BK450 := Aside0.mk (blk_below (g := gb450) (o := .cells #[.slice Ao16 t445.length co16, .bool t448, .int .i64 t449] 24 (0, 0)) (bp_0 BK450) hb); replace HB := Aside0.mk (below_step (bl_2 HB GE444 GE450) hb); (try clear hb); (try clear hb2); (try clear hk); (try clear hi); (try clear ho0)) | ((with_reducible refine gate_dst (N := 6) rfl ?_); refine box_event ?hg (N := 6) ?hd (cs := #[.slice none 0 0, .bool false, .int .i64 0]) (t := 24) ?hr ?_; (case hd => rfl); (case hg => rfl); (case hr => first | (go_simp; done) | (go_simp; rfl)); intro gb457 hg w20 hbox hb; replace HO447 := Aside0.mk (Kd.R_below (by (with_reducible repeat (first | apply Kd.R_alloc | apply Kd.R_drewN | apply Kd.R_drew)); exact HO447.out) hb); replace HO453 := Aside0.mk (Kd.R_below (by (with_reducible repeat (first | apply Kd.R_alloc | apply Kd.R_drewN | apply Kd.R_drew)); exact HO453.out) hb); have BK457 := Aside0.mk (hbox); have GW457 := Aside0.mk (bs_2 hg HB GE444 GE450); have GE457 := Aside0.mk (bs_2 hg HB GE444 GE450); replace HB := Aside0.mk (below_step (bl_2 HB GE444 GE450) hb); have NB444_457 := Aside0.mk (nb_ hg BK444); have NB457_444 := Aside0.mk (nc_ hg BK444); replace BK444 := Aside0.mk (bb_ BK444 hb); have NB450_457 := Aside0.mk (nb_ hg BK450); have NB457_450 := Aside0.mk (nc_ hg BK450); replace BK450 := Aside0.mk (bb_ BK450 hb); clear hb hbox hg; obtain ⟨Ao21, co21, eo21⟩ := Kd.R_slice HO453.out; subst eo21; have hnb22 := NB457_444.out; have hnc22 := NB444_457.out; have hnb23 := NB457_450.out; have hnc23 := NB450_457.out; obtain ⟨hcz24_0, hcz24_1, hcz24_2, hfz24_0, hfz24_1, hfz24_2⟩ := c3_ BK457; obtain ⟨hcz25_0, hcz25_1, hcz25_2, hfz25_0, hfz25_1, hfz25_2⟩ := c3_ BK444) | ((with_reducible refine gate_callee (f := 13) rfl ?_); refine goesL_ (some 21) rfl rfl Try.func13 (by kernel_rfl) rfl #[.agg #[.slice A0_0 l0_0.length c0_0, .bool a0_1, .int .i64 a0_2], .slice A1 l1.length c1] rfl (ar_) ?_; (with_reducible refine (gafferref02_Crash.calls k _ _ l0_0 a0_1 a0_2 _ _ l1 t458 t461 t462 t463 _ ?side1 ?side2 ?side3 ?side4 A5.out).mono ?_); (case side1 => exact Kd.C_below HR0_0.out (bl_3 HB GE444 GE450 GE457)); (case side2 => exact HC0_0.out); (case side3 => exact Kd.C_below HR1.out (bl_3 HB GE444 GE450 GE457)); (case side4 => exact HC1.out); rintro e w26 ⟨v459, rfl, ho0, hb⟩; refine ⟨_, rfl, ?_⟩; have HO460 := Aside0.mk (Kd.R_lower (Kd.R_new' (Kd.R_new' ho0 (Kd.R_lt (by (with_reducible repeat (first | apply Kd.R_alloc | apply Kd.R_drewN | apply Kd.R_drew)); exact (Kd.R_mono (Kd.R_far (p := ⟨gb457, 2, none⟩) (Kd.R_far (p := ⟨gb457, 1, none⟩) (Kd.R_far (p := ⟨gb457, 0, none⟩) (Kd.R_types HO447.out BK457.out (by decide)) (fun _ hk => hk.2) (.slice Ao21 t451.length co21)) (fun _ hk => hk.2) (.bool t454)) (fun _ hk => hk.2) (.int .i64 t455)) (fun _ h_ => h_.1))))) (Kd.R_lt (by (with_reducible repeat (first | apply Kd.R_alloc | apply Kd.R_drewN | apply Kd.R_drew)); exact (Kd.R_mono (Kd.R_far (p := ⟨gb457, 2, none⟩) (Kd.R_far (p := ⟨gb457, 1, none⟩) (Kd.R_far (p := ⟨gb457, 0, none⟩) (Kd.R_types HO453.out BK457.out (by decide)) (fun _ hk => hk.2) (.slice Ao21 t451.length co21)) (fun _ hk => hk.2) (.bool t454)) (fun _ hk => hk.2) (.int .i64 t455)) (fun _ h_ => h_.1))))) (below_size (bl_3 HB GE444 GE450 GE457))); replace HO447 := Aside0.mk (Kd.R_elder' (by (with_reducible repeat (first | apply Kd.R_alloc | apply Kd.R_drewN | apply Kd.R_drew)); exact (Kd.R_mono (Kd.R_far (p := ⟨gb457, 2, none⟩) (Kd.R_far (p := ⟨gb457, 1, none⟩) (Kd.R_far (p := ⟨gb457, 0, none⟩) (Kd.R_types HO447.out BK457.out (by decide)) (fun _ hk => hk.2) (.slice Ao21 t451.length co21)) (fun _ hk => hk.2) (.bool t454)) (fun _ hk => hk.2) (.int .i64 t455)) (fun _ h_ => h_.1))) (Kd.R_base ho0) hb); replace HO453 := Aside0.mk (Kd.R_elder' (by (with_reducible repeat (first | apply Kd.R_alloc | apply Kd.R_drewN | apply Kd.R_drew)); exact (Kd.R_mono (Kd.R_far (p := ⟨gb457, 2, none⟩) (Kd.R_far (p := ⟨gb457, 1, none⟩) (Kd.R_far (p := ⟨gb457, 0, none⟩) (Kd.R_types HO453.out BK457.out (by decide)) (fun _ hk => hk.2) (.slice Ao21 t451.length co21)) (fun _ hk => hk.2) (.bool t454)) (fun _ hk => hk.2) (.int .i64 t455)) (fun _ h_ => h_.1))) (Kd.R_base ho0) hb); replace BK444 := Aside0.mk (blk_below (g := gb444) (o := .cells #[.slice A0_0 l0_0.length c0_0, .bool a0_1, .int .i64 a0_2] 24 (0, 0)) (bp_1 BK444 NB444_457) hb); replace BK450 := Aside0.mk (blk_below (g := gb450) (o := .cells #[.slice Ao16 t445.length co16, .bool t448, .int .i64 t449] 24 (0, 0)) (bp_1 BK450 NB450_457) hb); replace BK457 := Aside0.mk (blk_below (g := gb457) (o := .cells #[.slice Ao21 t451.length co21, .bool t454, .int .i64 t455] 24 (0, 0)) (bp_0 BK457) hb); replace HB := Aside0.mk (below_step (bl_3 HB GE444 GE450 GE457) hb); (try clear hb); (try clear hb2); (try clear hk); (try clear hi); (try clear ho0)) | ((with_reducible refine gate_dst (N := 8) rfl ?_); refine box_event ?hg (N := 8) ?hd (cs := #[.slice none 0 0, .bool false, .int .i64 0]) (t := 24) ?hr ?_; (case hd => rfl); (case hg => rfl); (case hr => first | (go_simp; done) | (go_simp; rfl)); intro gb464 hg w27 hbox hb; replace HO447 := Aside0.mk (Kd.R_below (by (with_reducible repeat (first | apply Kd.R_alloc | apply Kd.R_drewN | apply Kd.R_drew)); exact HO447.out) hb); replace HO453 := Aside0.mk (Kd.R_below (by (with_reducible repeat (first | apply Kd.R_alloc | apply Kd.R_drewN | apply Kd.R_drew)); exact HO453.out) hb); replace HO460 := Aside0.mk (Kd.R_below (by (with_reducible repeat (first | apply Kd.R_alloc | apply Kd.R_drewN | apply Kd.R_drew)); exact HO460.out) hb); have BK464 := Aside0.mk (hbox); have GW464 := Aside0.mk (bs_3 hg HB GE444 GE450 GE457); have GE464 := Aside0.mk (bs_3 hg HB GE444 GE450 GE457); replace HB := Aside0.mk (below_step (bl_3 HB GE444 GE450 GE457) hb); have NB444_464 := Aside0.mk (nb_ hg BK444); have NB464_444 := Aside0.mk (nc_ hg BK444); replace BK444 := Aside0.mk (bb_ BK444 hb); have NB450_464 := Aside0.mk (nb_ hg BK450); have NB464_450 := Aside0.mk (nc_ hg BK450); replace BK450 := Aside0.mk (bb_ BK450 hb); have NB457_464 := Aside0.mk (nb_ hg BK457); have NB464_457 := Aside0.mk (nc_ hg BK457); replace BK457 := Aside0.mk (bb_ BK457 hb); clear hb hbox hg; obtain ⟨Ao28, co28, eo28⟩ := Kd.R_slice HO460.out; subst eo28; have hnb29 := NB464_444.out; have hnc29 := NB444_464.out; have hnb30 := NB464_450.out; have hnc30 := NB450_464.out; have hnb31 := NB464_457.out; have hnc31 := NB457_464.out; obtain ⟨hcz32_0, hcz32_1, hcz32_2, hfz32_0, hfz32_1, hfz32_2⟩ := c3_ BK464) | ((with_reducible refine gate_callee (f := 14) rfl ?_); refine goesL_ (some 24) rfl rfl Try.func14 (by kernel_rfl) rfl #[] rfl (ar_) ?_; (with_reducible refine (gafferlaw02_lives.calls k  true _ A6.out).mono ?_); rintro e w33 ⟨rfl, hb⟩; refine ⟨_, rfl, ?_⟩; replace HO447 := Aside0.mk (Kd.R_below (by (with_reducible repeat (first | apply Kd.R_alloc | apply Kd.R_drewN | apply Kd.R_drew)); exact (Kd.R_mono (Kd.R_far (p := ⟨gb464, 2, none⟩) (Kd.R_far (p := ⟨gb464, 1, none⟩) (Kd.R_far (p := ⟨gb464, 0, none⟩) (Kd.R_types HO447.out BK464.out (by decide)) (fun _ hk => hk.2) (.slice Ao28 t458.length co28)) (fun _ hk => hk.2) (.bool t461)) (fun _ hk => hk.2) (.int .i64 t462)) (fun _ h_ => h_.1))) hb); replace HO453 := Aside0.mk (Kd.R_below (by (with_reducible repeat (first | apply Kd.R_alloc | apply Kd.R_drewN | apply Kd.R_drew)); exact (Kd.R_mono (Kd.R_far (p := ⟨gb464, 2, none⟩) (Kd.R_far (p := ⟨gb464, 1, none⟩) (Kd.R_far (p := ⟨gb464, 0, none⟩) (Kd.R_types HO453.out BK464.out (by decide)) (fun _ hk => hk.2) (.slice Ao28 t458.length co28)) (fun _ hk => hk.2) (.bool t461)) (fun _ hk => hk.2) (.int .i64 t462)) (fun _ h_ => h_.1))) hb); replace HO460 := Aside0.mk (Kd.R_below (by (with_reducible repeat (first | apply Kd.R_alloc | apply Kd.R_drewN | apply Kd.R_drew)); exact (Kd.R_mono (Kd.R_far (p := ⟨gb464, 2, none⟩) (Kd.R_far (p := ⟨gb464, 1, none⟩) (Kd.R_far (p := ⟨gb464, 0, none⟩) (Kd.R_types HO460.out BK464.out (by decide)) (fun _ hk => hk.2) (.slice Ao28 t458.length co28)) (fun _ hk => hk.2) (.bool t461)) (fun _ hk => hk.2) (.int .i64 t462)) (fun _ h_ => h_.1))) hb); replace BK444 := Aside0.mk (blk_below (g := gb444) (o := .cells #[.slice A0_0 l0_0.length c0_0, .bool a0_1, .int .i64 a0_2] 24 (0, 0)) (bp_1 BK444 NB444_464) hb); replace BK450 := Aside0.mk (blk_below (g := gb450) (o := .cells #[.slice Ao16 t445.length co16, .bool t448, .int .i64 t449] 24 (0, 0)) (bp_1 BK450 NB450_464) hb); replace BK457 := Aside0.mk (blk_below (g := gb457) (o := .cells #[.slice Ao21 t451.length co21, .bool t454, .int .i64 t455] 24 (0, 0)) (bp_1 BK457 NB457_464) hb); replace BK464 := Aside0.mk (blk_below (g := gb464) (o := .cells #[.slice Ao28 t458.length co28, .bool t461, .int .i64 t462] 24 (0, 0)) (bp_0 BK464) hb); replace HB := Aside0.mk (below_step (bl_4 HB GE444 GE450 GE457 GE464) hb); (try clear hb); (try clear hb2); (try clear hk); (try clear hi); obtain ⟨hcz34_0, hcz34_1, hcz34_2, hfz34_0, hfz34_1, hfz34_2⟩ := c3_ BK457; obtain ⟨hcz35_0, hcz35_1, hcz35_2, hfz35_0, hfz35_1, hfz35_2⟩ := c3_ BK464) | (go_at_call 15; (with_reducible refine (gafferref02_Same.calls k _ _ t451 t454 t455 _ _ t458 t461 t462 true _ ?side1 ?side2 ?side3 ?side4 A8.out).mono ?_); (case side1 => repeat (first | exact (Kd.R_reads' HO453.out).2.2 | (with_reducible refine Kd.C_alloc ?_ _) | (with_reducible refine Kd.C_drewN ?_ _) | (with_reducible refine Kd.C_drew ?_))); (case side2 => exact (Kd.R_reads' HO453.out).2.1); (case side3 => repeat (first | exact (Kd.R_reads' HO460.out).2.2 | (with_reducible refine Kd.C_alloc ?_ _) | (with_reducible refine Kd.C_drewN ?_ _) | (with_reducible refine Kd.C_drew ?_))); (case side4 => exact (Kd.R_reads' HO460.out).2.1); rintro e w36 ⟨rfl, hb⟩; replace HO447 := Aside0.mk (Kd.R_below (by (with_reducible repeat (first | apply Kd.R_alloc | apply Kd.R_drewN | apply Kd.R_drew)); exact HO447.out) hb); replace HO453 := Aside0.mk (Kd.R_below (by (with_reducible repeat (first | apply Kd.R_alloc | apply Kd.R_drewN | apply Kd.R_drew)); exact HO453.out) hb); replace HO460 := Aside0.mk (Kd.R_below (by (with_reducible repeat (first | apply Kd.R_alloc | apply Kd.R_drewN | apply Kd.R_drew)); exact HO460.out) hb); replace BK444 := Aside0.mk (bb_ BK444 hb); replace BK450 := Aside0.mk (bb_ BK450 hb); replace BK457 := Aside0.mk (bb_ BK457 hb); replace BK464 := Aside0.mk (bb_ BK464 hb); replace HB := Aside0.mk (below_step (bl_4 HB GE444 GE450 GE457 GE464) hb); (try clear hb); (try clear hb2); (try clear hk); (try clear hi); obtain ⟨hcz37_0, hcz37_1, hcz37_2, hfz37_0, hfz37_1, hfz37_2⟩ := c3_ BK450; obtain ⟨hcz38_0, hcz38_1, hcz38_2, hfz38_0, hfz38_1, hfz38_2⟩ := c3_ BK444) | (go_at_call 15; (with_reducible refine (gafferref02_Same.calls k _ _ t445 t448 t449 _ _ l0_0 a0_1 a0_2 t467 _ ?side1 ?side2 ?side3 ?side4 A11.out).mono ?_); (case side1 => repeat (first | exact (Kd.R_reads' HO447.out).2.2 | (with_reducible refine Kd.C_alloc ?_ _) | (with_reducible refine Kd.C_drewN ?_ _) | (with_reducible refine Kd.C_drew ?_))); (case side2 => exact (Kd.R_reads' HO447.out).2.1); (case side3 => repeat (first | exact (Kd.C_below HR0_0.out HB.out) | (with_reducible refine Kd.C_alloc ?_ _) | (with_reducible refine Kd.C_drewN ?_ _) | (with_reducible refine Kd.C_drew ?_))); (case side4 => exact HC0_0.out); rintro e w39 ⟨rfl, hb⟩; replace HO447 := Aside0.mk (Kd.R_below (by (with_reducible repeat (first | apply Kd.R_alloc | apply Kd.R_drewN | apply Kd.R_drew)); exact HO447.out) hb); replace HO453 := Aside0.mk (Kd.R_below (by (with_reducible repeat (first | apply Kd.R_alloc | apply Kd.R_drewN | apply Kd.R_drew)); exact HO453.out) hb); replace HO460 := Aside0.mk (Kd.R_below (by (with_reducible repeat (first | apply Kd.R_alloc | apply Kd.R_drewN | apply Kd.R_drew)); exact HO460.out) hb); replace BK444 := Aside0.mk (bb_ BK444 hb); replace BK450 := Aside0.mk (bb_ BK450 hb); replace BK457 := Aside0.mk (bb_ BK457 hb); replace BK464 := Aside0.mk (bb_ BK464 hb); replace HB := Aside0.mk (below_step (bl_4 HB GE444 GE450 GE457 GE464) hb); (try clear hb); (try clear hb2); (try clear hk); (try clear hi)))
    go_ret
    exact ⟨by first | rfl | (simp; done) | (simp [*]; done), bl_4 HB GE444 GE450 GE457 GE464⟩
   ·rw [if_neg c10] at H
    have c10b0 : (t456 == t463) = false := beq_eq_false_iff_ne.mpr c10
    have c10b1 : (t456 != t463) = true := bne_iff_ne.mpr c10
    exact absurd (H.trans (congrArg some hr)) (by simp)
  ·replace c9 := Bool.eq_false_iff.mpr c9
   subst c9
   have H1 : (some false) = some r := by rw [if_neg (show ¬ (false = true) by decide)] at H; exact H
   clear H
   have H := H1
   clear H1
   exact absurd (H.trans (congrArg some hr)) (by simp)
 ·replace c7 := Bool.eq_false_iff.mpr c7
  subst c7
  have H1 : (some false) = some r := by rw [if_neg (show ¬ (false = true) by decide)] at H; exact H
  clear H
  have H := H1
  clear H1
  exact absurd (H.trans (congrArg some hr)) (by simp)

/-- THE ONE PURE STATEMENT of gafferlaw02_DiskCrashes: yours. -/
def gafferlaw02_DiskCrashes.Pure : Prop := ∀ (x0 : S24) (x1 : List Int), ok24 x0 → (okSl 8 (okInt .i64)) x1 → ∃ k, gafferlaw02_DiskCrashes.f k x0.f0 x0.f1 x0.f2 x1 = some true

end Go.Proofs.Ytpdacpopkegecaa.PA
