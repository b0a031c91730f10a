-- Written for this claim by a program of this session. Lean checks it.
import Derived.Test.YtpdacpopkegecaaPAx0
import Derived.Test.YtpdacpopkegecaaPAx2
import Derived.Test.YtpdacpopkegecaaPAx8
namespace Go.Proofs.Ytpdacpopkegecaa.PA
open Go.RowKit Go.Proofs.YtpdacpopkegecaaW.PrintWords Go.Proofs.YtpdacpopkegecaaW.PrintLast Go.Proofs.YtpdacpopkegecaaW.PrintMore Go.Proofs.Ytpdacpopkegecaa.Sh Go.Proofs.Ytpdacpopkegecaa.Op
attribute [local go_sem] max2_int min2_int max_two min_two max_three min_three max_four min_four   -- for this text's walks alone
set_option linter.unusedVariables false
set_option linter.unusedSimpArgs false

/-! ### gafferref02_ready: function 36 -/
def gafferref02_ready.f (k : Nat) (l0_0 : List (S35)) (a0_1 : Bool) (a0_2 : Int) : Option (Int) := (gafferref02_Check.f k l0_0 a0_1 a0_2).bind fun t278 => (if t278 = 0 then (if a0_1 = true then (some 8) else (some 0)) else (some 10))
theorem gafferref02_ready.mono : ∀ a0 a1 a2 k, LeO (gafferref02_ready.f k a0 a1 a2) (gafferref02_ready.f (k + 1) a0 a1 a2) := by
 intro a0 a1 a2 k
 unfold gafferref02_ready.f
 repeat' first
   | (with_reducible exact gafferref02_Check.mono _ _ _ _)
   | (with_reducible exact LeO.refl _)
   | (with_reducible exact LeO.none _)
   | (with_reducible refine LeO.ite ?_ ?_)
   | (with_reducible refine LeO.bind ?_ (fun _ => ?_))
   | exact gafferref02_Check.mono _ _ _ _
   | exact LeO.none _
   | refine LeO.ite ?_ ?_
   | refine LeO.bind ?_ (fun _ => ?_)
set_option maxHeartbeats 80000000 in
set_option maxRecDepth 100000 in
theorem gafferref02_ready.calls (k : Nat) (A0_0 : Option Addr) (c0_0 : Nat) (l0_0 : List (S35)) (a0_1 : Bool) (a0_2 : Int) (r : Int) (w : World) (hr0_0 : Kd.C k35 w A0_0 l0_0.length l0_0) (hc0_0 : l0_0.length ≤ c0_0) (h : gafferref02_ready.f k l0_0 a0_1 a0_2 = some r) :
  Calls Try.prog 36 #[.agg #[.slice A0_0 l0_0.length c0_0, .bool a0_1, .int .i64 a0_2]] w fun e w' => e = .returned (.int .i64 r) ∧ Below w.heap.size w w' := by
 have hu24 := Try.underlying24
 have HR0_0 := Aside0.mk hr0_0
 have HC0_0 := Aside0.mk hc0_0
 clear hr0_0 hc0_0
 have HB := Aside0.mk (Below.refl w.heap.size w)
 have H : ((gafferref02_Check.f k l0_0 a0_1 a0_2).bind fun t278 => (if t278 = 0 then (if a0_1 = true then (some 8) else (some 0)) else (some 10))) = some r := h
 clear h
 replace H := Option.bind_eq_some_iff.mp H
 obtain ⟨t278, A20, H⟩ := H
 replace H : (if t278 = 0 then (if a0_1 = true then (some 8) else (some 0)) else (some 10)) = some r := H
 have A2 := Aside0.mk A20
 clear A20
 by_cases c3 : t278 = 0
 ·rw [if_pos c3] at H
  have c3b0 : (t278 == 0) = true := beq_iff_eq.mpr c3
  have c3b1 : (t278 != 0) = false := bne_eq_false_iff_eq.mpr c3
  clear c3
  by_cases c4 : a0_1 = true
  ·subst c4
   have H1 : (some 8) = some r := by rw [if_pos rfl] at H; exact H
   clear H
   have H := H1
   clear H1
   obtain rfl := Option.some.inj H
   go_enter Try.func36, Try.ntmps36
   go_wp2_with (first | ((with_reducible refine gate_dst (N := 1) rfl ?_); refine box_event ?hg (N := 1) ?hd (cs := #[.slice A0_0 l0_0.length c0_0, .bool true, .int .i64 a0_2]) (t := 24) ?hr ?_; (case hd => rfl); (case hg => rfl); (case hr => first | (go_simp; done) | (go_simp; rfl)); intro gb277 hg w5 hbox hb; have BK277 := Aside0.mk (hbox); have GW277 := Aside0.mk (bs_0 hg HB); have GE277 := Aside0.mk (bs_0 hg HB); replace HB := Aside0.mk (below_step (bl_ HB) hb); clear hb hbox hg; obtain ⟨hcz6_0, hcz6_1, hcz6_2, hfz6_0, hfz6_1, hfz6_2⟩ := c3_ BK277) | ((with_reducible refine gate_callee (f := 31) rfl ?_); refine goesL_ (some 5) rfl rfl Try.func31 (by kernel_rfl) rfl #[.agg #[.slice A0_0 l0_0.length c0_0, .bool true, .int .i64 a0_2]] rfl (ar_) ?_; (with_reducible refine (gafferref02_Check.calls k _ _ l0_0 true a0_2 t278 _ ?side1 ?side2 A2.out).mono ?_); (case side1 => repeat (first | exact (Kd.C_below HR0_0.out HB.out) | (with_reducible refine Kd.C_alloc ?_ _) | (with_reducible refine Kd.C_drewN ?_ _) | (with_reducible refine Kd.C_drew ?_))); (case side2 => exact HC0_0.out); rintro e w7 ⟨rfl, hb⟩; refine ⟨_, rfl, ?_⟩; replace BK277 := Aside0.mk (bb_ BK277 hb); replace HB := Aside0.mk (below_step (bl_1 HB GE277) hb); (try clear hb); (try clear hb2); (try clear hk); (try clear hi); obtain ⟨hcz8_0, hcz8_1, hcz8_2, hfz8_0, hfz8_1, hfz8_2⟩ := c3_ BK277))
   go_ret
   exact ⟨by first | rfl | (simp; done) | (simp [*]; done), bl_1 HB GE277⟩
  ·replace c4 := Bool.eq_false_iff.mpr c4
   subst c4
   have H1 : (some 0) = some r := by rw [if_neg (show ¬ (false = true) by decide)] at H; exact H
   clear H
   have H := H1
   clear H1
   obtain rfl := Option.some.inj H
   go_enter Try.func36, Try.ntmps36
   go_wp2_with (first | ((with_reducible refine gate_dst (N := 1) rfl ?_); refine box_event ?hg (N := 1) ?hd (cs := #[.slice A0_0 l0_0.length c0_0, .bool false, .int .i64 a0_2]) (t := 24) ?hr ?_; (case hd => rfl); (case hg => rfl); (case hr => first | (go_simp; done) | (go_simp; rfl)); intro gb277 hg w9 hbox hb; have BK277 := Aside0.mk (hbox); have GW277 := Aside0.mk (bs_0 hg HB); have GE277 := Aside0.mk (bs_0 hg HB); replace HB := Aside0.mk (below_step (bl_ HB) hb); clear hb hbox hg; obtain ⟨hcz10_0, hcz10_1, hcz10_2, hfz10_0, hfz10_1, hfz10_2⟩ := c3_ BK277) | ((with_reducible refine gate_callee (f := 31) rfl ?_); refine goesL_ (some 5) rfl rfl Try.func31 (by kernel_rfl) rfl #[.agg #[.slice A0_0 l0_0.length c0_0, .bool false, .int .i64 a0_2]] rfl (ar_) ?_; (with_reducible refine (gafferref02_Check.calls k _ _ l0_0 false a0_2 t278 _ ?side1 ?side2 A2.out).mono ?_); (case side1 => repeat (first | exact (Kd.C_below HR0_0.out HB.out) | (with_reducible refine Kd.C_alloc ?_ _) | (with_reducible refine Kd.C_drewN ?_ _) | (with_reducible refine Kd.C_drew ?_))); (case side2 => exact HC0_0.out); rintro e w11 ⟨rfl, hb⟩; refine ⟨_, rfl, ?_⟩; replace BK277 := Aside0.mk (bb_ BK277 hb); replace HB := Aside0.mk (below_step (bl_1 HB GE277) hb); (try clear hb); (try clear hb2); (try clear hk); (try clear hi); obtain ⟨hcz12_0, hcz12_1, hcz12_2, hfz12_0, hfz12_1, hfz12_2⟩ := c3_ BK277))
   go_ret
   exact ⟨by first | rfl | (simp; done) | (simp [*]; done), bl_1 HB GE277⟩
 ·rw [if_neg c3] at H
  have c3b0 : (t278 == 0) = false := beq_eq_false_iff_ne.mpr c3
  have c3b1 : (t278 != 0) = true := bne_iff_ne.mpr c3
  obtain rfl := Option.some.inj H
  go_enter Try.func36, Try.ntmps36
  go_wp2_with (first | ((with_reducible refine gate_dst (N := 1) rfl ?_); refine box_event ?hg (N := 1) ?hd (cs := #[.slice A0_0 l0_0.length c0_0, .bool a0_1, .int .i64 a0_2]) (t := 24) ?hr ?_; (case hd => rfl); (case hg => rfl); (case hr => first | (go_simp; done) | (go_simp; rfl)); intro gb277 hg w13 hbox hb; have BK277 := Aside0.mk (hbox); have GW277 := Aside0.mk (bs_0 hg HB); have GE277 := Aside0.mk (bs_0 hg HB); replace HB := Aside0.mk (below_step (bl_ HB) hb); clear hb hbox hg; obtain ⟨hcz14_0, hcz14_1, hcz14_2, hfz14_0, hfz14_1, hfz14_2⟩ := c3_ BK277) | ((with_reducible refine gate_callee (f := 31) rfl ?_); refine goesL_ (some 5) rfl rfl Try.func31 (by kernel_rfl) rfl #[.agg #[.slice A0_0 l0_0.length c0_0, .bool a0_1, .int .i64 a0_2]] rfl (ar_) ?_; (with_reducible refine (gafferref02_Check.calls k _ _ l0_0 a0_1 a0_2 t278 _ ?side1 ?side2 A2.out).mono ?_); (case side1 => repeat (first | exact (Kd.C_below HR0_0.out HB.out) | (with_reducible refine Kd.C_alloc ?_ _) | (with_reducible refine Kd.C_drewN ?_ _) | (with_reducible refine Kd.C_drew ?_))); (case side2 => exact HC0_0.out); rintro e w15 ⟨rfl, hb⟩; refine ⟨_, rfl, ?_⟩; replace BK277 := Aside0.mk (bb_ BK277 hb); replace HB := Aside0.mk (below_step (bl_1 HB GE277) hb); (try clear hb); (try clear hb2); (try clear hk); (try clear hi)))
  go_ret
  exact ⟨by first | rfl | (simp; done) | (simp [*]; done), bl_1 HB GE277⟩

/-! ### gafferref02_find: function 37 -/
def gafferref02_find.l0 : Nat → ByteArray → List (S35) → Int → Int → Option (Int)
 | 0, _, _, _, _ => none
 | k + 1, x1, x8, x9, x10 => if x10 < x9 then (if 0 ≤ x10 then (if x10 < (x8.length : Int) then (if ((rd_T35 x8 x10).f0).toList = x1.toList then (some x10) else (gafferref02_find.l0 k x1 x8 x9 (wrap64 (x10 + 1)))) else (none)) else (none)) else (some (-1))
def gafferref02_find.f (k : Nat) (l0_0 : List (S35)) (a0_1 : Bool) (a0_2 : Int) (a1 : ByteArray) : Option (Int) := gafferref02_find.l0 k a1 l0_0 (l0_0.length : Int) 0
theorem gafferref02_find.mono_l : ∀ k, (∀ y0 y1 y2 y3, LeO (gafferref02_find.l0 k y0 y1 y2 y3) (gafferref02_find.l0 (k + 1) y0 y1 y2 y3))
 | 0 => fun _ _ _ _ r h => by simp [gafferref02_find.l0] at h
 | k + 1 => by
  have ih0 := gafferref02_find.mono_l k
  ·intro y0 y1 y2 y3
   unfold gafferref02_find.l0
   repeat' first
   | (with_reducible exact ih0 _ _ _ _)
   | (with_reducible exact LeO.refl _)
   | (with_reducible exact LeO.none _)
   | (with_reducible refine LeO.ite ?_ ?_)
   | (with_reducible refine LeO.bind ?_ (fun _ => ?_))
   | exact ih0 _ _ _ _
   | exact LeO.none _
   | refine LeO.ite ?_ ?_
   | refine LeO.bind ?_ (fun _ => ?_)
theorem gafferref02_find.mono : ∀ a0 a1 a2 a3 k, LeO (gafferref02_find.f k a0 a1 a2 a3) (gafferref02_find.f (k + 1) a0 a1 a2 a3) := by
 intro a0 a1 a2 a3 k
 have ih0 := gafferref02_find.mono_l k
 unfold gafferref02_find.f
 repeat' first
   | (with_reducible exact ih0 _ _ _ _)
   | (with_reducible exact LeO.refl _)
   | (with_reducible exact LeO.none _)
   | (with_reducible refine LeO.ite ?_ ?_)
   | (with_reducible refine LeO.bind ?_ (fun _ => ?_))
   | exact ih0 _ _ _ _
   | exact LeO.none _
   | refine LeO.ite ?_ ?_
   | refine LeO.bind ?_ (fun _ => ?_)
set_option maxHeartbeats 80000000 in
set_option maxRecDepth 100000 in
theorem gafferref02_find.calls (k : Nat) (A0_0 : Option Addr) (c0_0 : Nat) (l0_0 : List (S35)) (a0_1 : Bool) (a0_2 : Int) (a1 : ByteArray) (r : Int) (w : World) (hr0_0 : Kd.C k35 w A0_0 l0_0.length l0_0) (hc0_0 : l0_0.length ≤ c0_0) (h : gafferref02_find.f k l0_0 a0_1 a0_2 a1 = some r) :
  Calls Try.prog 37 #[.agg #[.slice A0_0 l0_0.length c0_0, .bool a0_1, .int .i64 a0_2], .string a1] w fun e w' => e = .returned (.int .i64 r) ∧ Below w.heap.size w w' := by
 have hu24 := Try.underlying24
 have hu35 := Try.underlying35
 have HR0_0 := Aside0.mk hr0_0
 have HC0_0 := Aside0.mk hc0_0
 clear hr0_0 hc0_0
 have HB := Aside0.mk (Below.refl w.heap.size w)
 have H : (gafferref02_find.l0 k a1 l0_0 (l0_0.length : Int) 0) = some r := h
 clear h
 have H' := Aside0.mk H
 clear H
 go_enter Try.func37, Try.ntmps37
 go_wp2_with (first | ((with_reducible refine gate_dst (N := 2) rfl ?_); refine box_event ?hg (N := 2) ?hd (cs := #[.slice A0_0 l0_0.length c0_0, .bool a0_1, .int .i64 a0_2]) (t := 24) ?hr ?_; (case hd => rfl); (case hg => rfl); (case hr => first | (go_simp; done) | (go_simp; rfl)); intro gb279 hg w3 hbox hb; have BK279 := Aside0.mk (hbox); have GW279 := Aside0.mk (bs_0 hg HB); have GE279 := Aside0.mk (bs_0 hg HB); replace HB := Aside0.mk (below_step (bl_ HB) hb); clear hb hbox hg; obtain ⟨hcz4_0, hcz4_1, hcz4_2, hfz4_0, hfz4_1, hfz4_2⟩ := c3_ BK279))
 go_loopg [10] k (fun kq v10 w' => ∃ (x10_1 : Int), v10 = .int .i64 x10_1 ∧ Aside0 (gafferref02_find.l0 kq a1 l0_0 (l0_0.length : Int) x10_1 = some r) ∧ Aside0 (kq ≤ k) ∧ Aside0 (w'.heap[gb279]? = some (.cells #[(.slice A0_0 l0_0.length c0_0), .bool a0_1, .int .i64 a0_2] 24 (0, 0))) ∧ Aside0 (Below w.heap.size w w'))
 case atStart => exact ⟨(0), (by first | rfl | (simp; done) | (simp [*]; done)), H', ⟨Nat.le_refl _⟩, ⟨bk_ BK279⟩, ⟨bl_1 HB GE279⟩⟩
 case round =>
  clear H'
  try clear p2
  try clear c3
  try clear hcz4_0
  try clear hcz4_1
  try clear hcz4_2
  try clear hfz4_0
  try clear hfz4_1
  try clear hfz4_2
  obtain ⟨x10_1, rfl, HA, HK1, BK279, HB⟩ := hrel
  cases gk with
  | zero => exact absurd HA.out (by simp [gafferref02_find.l0])
  | succ k1 =>
   have H := HA.out
   clear HA
   simp only [gafferref02_find.l0] at H
   by_cases c5 : x10_1 < (l0_0.length : Int)
   ·rw [if_pos c5] at H
    have c5b0 : decide (x10_1 < (l0_0.length : Int)) = true := decide_eq_true c5
    clear c5
    by_cases c6 : 0 ≤ x10_1
    ·rw [if_pos c6] at H
     have c6b0 : decide (0 ≤ x10_1) = true := decide_eq_true c6
     clear c6
     by_cases c7 : x10_1 < (l0_0.length : Int)
     ·rw [if_pos c7] at H
      have c7b0 : decide (x10_1 < (l0_0.length : Int)) = true := decide_eq_true c7
      clear c7
      by_cases c8 : ((rd_T35 l0_0 x10_1).f0).toList = a1.toList
      ·rw [if_pos c8] at H
       have c8b0 : (((rd_T35 l0_0 x10_1).f0).toList == a1.toList) = true := beq_iff_eq.mpr c8
       have c8b1 : (((rd_T35 l0_0 x10_1).f0).toList != a1.toList) = false := bne_eq_false_iff_eq.mpr c8
       clear c8
       obtain rfl := Option.some.inj H
       have p280 : 0 ≤ (x10_1 : Int) := of_decide_eq_true (by first | (with_reducible assumption) | assumption)
       have q280 : x10_1 < (l0_0.length : Int) := of_decide_eq_true (by first | (with_reducible assumption) | assumption)
       obtain ⟨ad280, e280, hx280_0, hx280_1, hx280_2⟩ := at_T35 HR0_0.out x10_1 p280 q280
       cases e280
       replace hx280_0 := (HB.out.cell (World.block_lt_of_cell? w _ hx280_0)).trans hx280_0
       replace hx280_1 := (HB.out.cell (World.block_lt_of_cell? w _ hx280_1)).trans hx280_1
       replace hx280_2 := (HB.out.cell (World.block_lt_of_cell? w _ hx280_2)).trans hx280_2
       replace p280 := eq_true p280
       replace q280 := eq_true q280
       go_wp2_with (first | ((with_reducible refine gate_dst (N := 6) rfl ?_); refine box_event ?hg (N := 6) ?hd (cs := #[.string (⟨#[]⟩ : ByteArray), .string (⟨#[]⟩ : ByteArray), .int .i64 0]) (t := 35) ?hr ?_; (case hd => rfl); (case hg => rfl); (case hr => first | (go_simp; done) | (go_simp; rfl)); intro gb281 hg w9 hbox hb; have BK281 := Aside0.mk (hbox); have GW281 := Aside0.mk (bs_1 hg HB GE279); have GE281 := Aside0.mk (bs_1 hg HB GE279); replace HB := Aside0.mk (below_step (bl_1 HB GE279) hb); have NB279_281 := Aside0.mk (nb_ hg BK279); have NB281_279 := Aside0.mk (nc_ hg BK279); replace BK279 := Aside0.mk (bb_ BK279 hb); clear hb hbox hg; have hnb10 := NB281_279.out; have hnc10 := NB279_281.out; obtain ⟨hcz11_0, hcz11_1, hcz11_2, hfz11_0, hfz11_1, hfz11_2⟩ := c3_ BK281))
       go_ret
       exact ⟨by first | rfl | (simp; done) | (simp [*]; done), bl_2 HB GE279 GE281⟩
      ·rw [if_neg c8] at H
       have c8b0 : (((rd_T35 l0_0 x10_1).f0).toList == a1.toList) = false := beq_eq_false_iff_ne.mpr c8
       have c8b1 : (((rd_T35 l0_0 x10_1).f0).toList != a1.toList) = true := bne_iff_ne.mpr c8
       have H' := Aside0.mk H
       clear H
       have p280 : 0 ≤ (x10_1 : Int) := of_decide_eq_true (by first | (with_reducible assumption) | assumption)
       have q280 : x10_1 < (l0_0.length : Int) := of_decide_eq_true (by first | (with_reducible assumption) | assumption)
       obtain ⟨ad280, e280, hx280_0, hx280_1, hx280_2⟩ := at_T35 HR0_0.out x10_1 p280 q280
       cases e280
       replace hx280_0 := (HB.out.cell (World.block_lt_of_cell? w _ hx280_0)).trans hx280_0
       replace hx280_1 := (HB.out.cell (World.block_lt_of_cell? w _ hx280_1)).trans hx280_1
       replace hx280_2 := (HB.out.cell (World.block_lt_of_cell? w _ hx280_2)).trans hx280_2
       replace p280 := eq_true p280
       replace q280 := eq_true q280
       go_wp2_with (first | ((with_reducible refine gate_dst (N := 6) rfl ?_); refine box_event ?hg (N := 6) ?hd (cs := #[.string (⟨#[]⟩ : ByteArray), .string (⟨#[]⟩ : ByteArray), .int .i64 0]) (t := 35) ?hr ?_; (case hd => rfl); (case hg => rfl); (case hr => first | (go_simp; done) | (go_simp; rfl)); intro gb281 hg w12 hbox hb; have BK281 := Aside0.mk (hbox); have GW281 := Aside0.mk (bs_1 hg HB GE279); have GE281 := Aside0.mk (bs_1 hg HB GE279); replace HB := Aside0.mk (below_step (bl_1 HB GE279) hb); have NB279_281 := Aside0.mk (nb_ hg BK279); have NB281_279 := Aside0.mk (nc_ hg BK279); replace BK279 := Aside0.mk (bb_ BK279 hb); clear hb hbox hg; have hnb13 := NB281_279.out; have hnc13 := NB279_281.out; obtain ⟨hcz14_0, hcz14_1, hcz14_2, hfz14_0, hfz14_1, hfz14_2⟩ := c3_ BK281))
       go_roundg k1
       case measure => have := HK1.out; omega
       case rel => exact ⟨(wrap64 (x10_1 + 1)), (by first | rfl | (simp; done) | (simp [*]; done)), H', ⟨by have := HK1.out; omega⟩, ⟨by (with_reducible repeat (first | refine blk_drewN ?_ _ | refine blk_drew ?_ | refine blk_alloc ?_ _)); refine blk_far ?_ NB279_281.out _; (with_reducible repeat (first | refine blk_drewN ?_ _ | refine blk_drew ?_ | refine blk_alloc ?_ _)); refine blk_far ?_ NB279_281.out _; (with_reducible repeat (first | refine blk_drewN ?_ _ | refine blk_drew ?_ | refine blk_alloc ?_ _)); refine blk_far ?_ NB279_281.out _; (with_reducible repeat (first | refine blk_drewN ?_ _ | refine blk_drew ?_ | refine blk_alloc ?_ _)); exact BK279.out⟩, ⟨bl_2 HB GE279 GE281⟩⟩
     ·rw [if_neg c7] at H
      exact absurd H (by simp)
    ·rw [if_neg c6] at H
     exact absurd H (by simp)
   ·rw [if_neg c5] at H
    have c5b0 : decide (x10_1 < (l0_0.length : Int)) = false := decide_eq_false c5
    clear c5
    obtain rfl := Option.some.inj H
    go_wp2
    go_ret
    exact ⟨by first | rfl | (simp; done) | (simp [*]; done), bl_1 HB GE279⟩

/-! ### gafferref02_name: function 38 -/
def gafferref02_name.f (a0 : ByteArray) : Option (Bool) := if a0.toList = ([] : List UInt8) then (some false) else (some (decide ((a0.size : Int) ≤ 32)))
set_option maxHeartbeats 80000000 in
set_option maxRecDepth 100000 in
theorem gafferref02_name.calls (a0 : ByteArray) (r : Bool) (w : World) (h : gafferref02_name.f a0 = some r) :
  Calls Try.prog 38 #[.string a0] w fun e w' => e = .returned (.bool r) ∧ Drawn0 w w' := by
 have H : (if a0.toList = ([] : List UInt8) then (some false) else (some (decide ((a0.size : Int) ≤ 32)))) = some r := h
 clear h
 by_cases c2 : a0.toList = ([] : List UInt8)
 ·rw [if_pos c2] at H
  have c2b0 : (a0.toList == ([] : List UInt8)) = true := beq_iff_eq.mpr c2
  have c2b1 : (a0.toList != ([] : List UInt8)) = false := bne_eq_false_iff_eq.mpr c2
  clear c2
  obtain rfl := Option.some.inj H
  go_enter Try.func38, Try.ntmps38
  go_wp2
  go_ret
  exact ⟨by first | rfl | (simp; done) | (simp [*]; done), dr_⟩
 ·rw [if_neg c2] at H
  have c2b0 : (a0.toList == ([] : List UInt8)) = false := beq_eq_false_iff_ne.mpr c2
  have c2b1 : (a0.toList != ([] : List UInt8)) = true := bne_iff_ne.mpr c2
  obtain rfl := Option.some.inj H
  go_enter Try.func38, Try.ntmps38
  go_wp2
  go_ret
  exact ⟨by first | rfl | (simp; done) | (simp [*]; done), dr_⟩

/-! ### gafferref02_bad: function 39 -/
def gafferref02_bad.f (l0_0 : List (S35)) (a0_1 : Bool) (a0_2 : Int) (a1 : Int) : Option ((List (S35)) × Bool × Int × Int) := if a1 = 10 then (some (([] : List (S35)), false, 0, a1)) else ((gafferref02_Copy.f l0_0 a0_1 a0_2).bind fun bt284 => (some (bt284.1, bt284.2.1, bt284.2.2, a1)))
set_option maxHeartbeats 80000000 in
set_option maxRecDepth 100000 in
theorem gafferref02_bad.calls (A0_0 : Option Addr) (c0_0 : Nat) (l0_0 : List (S35)) (a0_1 : Bool) (a0_2 : Int) (a1 : Int) (r1 : List (S35)) (r2 : Bool) (r3 : Int) (r4 : Int) (w : World) (hr0_0 : Kd.C k35 w A0_0 l0_0.length l0_0) (hc0_0 : l0_0.length ≤ c0_0) (h : gafferref02_bad.f l0_0 a0_1 a0_2 a1 = some (r1, r2, r3, r4)) :
  Calls Try.prog 39 #[.agg #[.slice A0_0 l0_0.length c0_0, .bool a0_1, .int .i64 a0_2], .int .i64 a1] w fun e w' => ∃ v0_ : Value, e = .returned (.tuple #[.agg #[v0_, .bool r2, .int .i64 r3], .int .i64 r4]) ∧ Kd.R k35 35 w' w.heap.size (fun _ => True) v0_ r1 ∧ Below w.heap.size w w' := by
 have hu24 := Try.underlying24
 have HR0_0 := Aside0.mk hr0_0
 have HC0_0 := Aside0.mk hc0_0
 clear hr0_0 hc0_0
 have HB := Aside0.mk (Below.refl w.heap.size w)
 have H : (if a1 = 10 then (some (([] : List (S35)), false, 0, a1)) else ((gafferref02_Copy.f l0_0 a0_1 a0_2).bind fun bt284 => (some (bt284.1, bt284.2.1, bt284.2.2, a1)))) = some (r1, r2, r3, r4) := h
 clear h
 by_cases c3 : a1 = 10
 ·rw [if_pos c3] at H
  have c3b0 : (a1 == 10) = true := beq_iff_eq.mpr c3
  have c3b1 : (a1 != 10) = false := bne_eq_false_iff_eq.mpr c3
  clear c3
  simp only [Option.some.injEq, Prod.mk.injEq] at H
  obtain ⟨rfl, rfl, rfl, rfl⟩ := H
  go_enter Try.func39, Try.ntmps39
  go_wp2_with (first | ((with_reducible refine gate_dst (N := 2) rfl ?_); refine box_event ?hg (N := 2) ?hd (cs := #[.slice A0_0 l0_0.length c0_0, .bool a0_1, .int .i64 a0_2]) (t := 24) ?hr ?_; (case hd => rfl); (case hg => rfl); (case hr => first | (go_simp; done) | (go_simp; rfl)); intro gb282 hg w4 hbox hb; have BK282 := Aside0.mk (hbox); have GW282 := Aside0.mk (bs_0 hg HB); have GE282 := Aside0.mk (bs_0 hg HB); replace HB := Aside0.mk (below_step (bl_ HB) hb); clear hb hbox hg) | ((with_reducible refine gate_dst (N := 4) rfl ?_); refine box_event ?hg (N := 4) ?hd (cs := #[.slice none 0 0, .bool false, .int .i64 0]) (t := 24) ?hr ?_; (case hd => rfl); (case hg => rfl); (case hr => first | (go_simp; done) | (go_simp; rfl)); intro gb283 hg w5 hbox hb; have BK283 := Aside0.mk (hbox); have GW283 := Aside0.mk (bs_1 hg HB GE282); have GE283 := Aside0.mk (bs_1 hg HB GE282); replace HB := Aside0.mk (below_step (bl_1 HB GE282) hb); have NB282_283 := Aside0.mk (nb_ hg BK282); have NB283_282 := Aside0.mk (nc_ hg BK282); replace BK282 := Aside0.mk (bb_ BK282 hb); clear hb hbox hg; have hnb6 := NB283_282.out; have hnc6 := NB282_283.out; obtain ⟨hcz7_0, hcz7_1, hcz7_2, hfz7_0, hfz7_1, hfz7_2⟩ := c3_ BK283))
  refine bodyPost_ret (results_ct rfl _ _ gb283 24 #[.slice none 0 0, .bool false, .int .i64 0] (0, 0) _ rfl (bp_0 BK283) Try.underlying24 rfl (by kernel_rfl)) rfl ?_
  exact ⟨_, by first | rfl | (simp; done) | (simp [*]; done), by first | exact Kd.R_nil _ _ _ _ _ | exact Kd.N_nil _ _ _ _ _ | exact Kd.V_nil _ _ _ _ _ | exact Kd.Q_nil _ _ _ _ _ | exact Kd.S_nil _ _ _ _ _, bl_2 HB GE282 GE283⟩
 ·rw [if_neg c3] at H
  have c3b0 : (a1 == 10) = false := beq_eq_false_iff_ne.mpr c3
  have c3b1 : (a1 != 10) = true := bne_iff_ne.mpr c3
  replace H := Option.bind_eq_some_iff.mp H
  obtain ⟨⟨t284, t287, t288⟩, A80, H⟩ := H
  replace H : (some (t284, t287, t288, a1)) = some (r1, r2, r3, r4) := H
  have A8 := Aside0.mk A80
  clear A80
  simp only [Option.some.injEq, Prod.mk.injEq] at H
  obtain ⟨rfl, rfl, rfl, rfl⟩ := H
  go_enter Try.func39, Try.ntmps39
  go_wp2_with (first | ((with_reducible refine gate_dst (N := 2) rfl ?_); refine box_event ?hg (N := 2) ?hd (cs := #[.slice A0_0 l0_0.length c0_0, .bool a0_1, .int .i64 a0_2]) (t := 24) ?hr ?_; (case hd => rfl); (case hg => rfl); (case hr => first | (go_simp; done) | (go_simp; rfl)); intro gb282 hg w9 hbox hb; have BK282 := Aside0.mk (hbox); have GW282 := Aside0.mk (bs_0 hg HB); have GE282 := Aside0.mk (bs_0 hg HB); replace HB := Aside0.mk (below_step (bl_ HB) hb); clear hb hbox hg) | ((with_reducible refine gate_dst (N := 4) rfl ?_); refine box_event ?hg (N := 4) ?hd (cs := #[.slice none 0 0, .bool false, .int .i64 0]) (t := 24) ?hr ?_; (case hd => rfl); (case hg => rfl); (case hr => first | (go_simp; done) | (go_simp; rfl)); intro gb283 hg w10 hbox hb; have BK283 := Aside0.mk (hbox); have GW283 := Aside0.mk (bs_1 hg HB GE282); have GE283 := Aside0.mk (bs_1 hg HB GE282); replace HB := Aside0.mk (below_step (bl_1 HB GE282) hb); have NB282_283 := Aside0.mk (nb_ hg BK282); have NB283_282 := Aside0.mk (nc_ hg BK282); replace BK282 := Aside0.mk (bb_ BK282 hb); clear hb hbox hg; have hnb11 := NB282_283.out; have hnc11 := NB283_282.out; obtain ⟨hcz12_0, hcz12_1, hcz12_2, hfz12_0, hfz12_1, hfz12_2⟩ := c3_ BK282) | ((with_reducible refine gate_callee (f := 11) rfl ?_); refine goesL_ (some 11) rfl rfl Try.func11 (by kernel_rfl) rfl #[.agg #[.slice A0_0 l0_0.length c0_0, .bool a0_1, .int .i64 a0_2]] rfl (ar_) ?_; (with_reducible refine (gafferref02_Copy.calls _ _ l0_0 a0_1 a0_2 t284 t287 t288 _ ?side1 ?side2 A8.out).mono ?_); (case side1 => repeat (first | exact (Kd.C_below HR0_0.out HB.out) | (with_reducible refine Kd.C_alloc ?_ _) | (with_reducible refine Kd.C_drewN ?_ _) | (with_reducible refine Kd.C_drew ?_))); (case side2 => exact HC0_0.out); rintro e w13 ⟨v285, rfl, ho0, hb⟩; refine ⟨_, rfl, ?_⟩; have HO286 := Aside0.mk (Kd.R_lower ho0 (below_size (bl_2 HB GE282 GE283))); replace BK282 := Aside0.mk (bb_ BK282 hb); replace BK283 := Aside0.mk (bb_ BK283 hb); replace HB := Aside0.mk (below_step (bl_2 HB GE282 GE283) hb); (try clear hb); (try clear hb2); (try clear hk); (try clear hi); (try clear ho0); obtain ⟨Ao14, co14, eo14⟩ := Kd.R_slice HO286.out; subst eo14; obtain ⟨hcz15_0, hcz15_1, hcz15_2, hfz15_0, hfz15_1, hfz15_2⟩ := c3_ BK283))
  refine bodyPost_ret (results_ct rfl _ _ gb283 24 #[.slice Ao14 t284.length co14, .bool t287, .int .i64 t288] (0, 0) _ rfl (bp_0 BK283) Try.underlying24 rfl (by kernel_rfl)) rfl ?_
  exact ⟨_, by first | rfl | (simp; done) | (simp [*]; done), by (with_reducible repeat (first | apply Kd.R_alloc | apply Kd.R_drewN | apply Kd.R_drew)); exact Kd.R_mono (Kd.R_far (p := ⟨gb283, 2, none⟩) (Kd.R_far (p := ⟨gb283, 1, none⟩) (Kd.R_far (p := ⟨gb283, 0, none⟩) (Kd.R_types HO286.out BK283.out (by decide)) (fun _ hk => hk.2) (.slice Ao14 t284.length co14)) (fun _ hk => hk.2) (.bool t287)) (fun _ hk => hk.2) (.int .i64 t288)) (fun _ hk => trivial), bl_2 HB GE282 GE283⟩

/-! ### gafferref02_burnt: function 40 -/
def gafferref02_burnt.f (l0_0 : List (S35)) (a0_1 : Bool) (a0_2 : Int) : Option ((List (S35)) × Bool × Int × Bool) := if a0_2 = 0 then (some (l0_0, true, a0_2, false)) else (if a0_2 > 0 then (some (l0_0, a0_1, wrap64 (a0_2 - 1), true)) else (some (l0_0, a0_1, a0_2, true)))
set_option maxHeartbeats 80000000 in
set_option maxRecDepth 100000 in
theorem gafferref02_burnt.calls (P0_0_ : Nat → Prop) (u9000_ : Value) (l0_0 : List (S35)) (a0_1 : Bool) (a0_2 : Int) (r1 : List (S35)) (r2 : Bool) (r3 : Int) (r4 : Bool) (w0 w : World) (hB : Below w0.heap.size w0 w) (ho0_0 : Kd.R k35 35 w w0.heap.size P0_0_ u9000_ l0_0) (h : gafferref02_burnt.f l0_0 a0_1 a0_2 = some (r1, r2, r3, r4)) :
  Calls Try.prog 40 #[.agg #[u9000_, .bool a0_1, .int .i64 a0_2]] w fun e w' => ∃ v0_ : Value, e = .returned (.tuple #[.agg #[v0_, .bool r2, .int .i64 r3], .bool r4]) ∧ Kd.R k35 35 w' w0.heap.size (fun k_ => (P0_0_ k_ ∨ w.heap.size ≤ k_)) v0_ r1 ∧ Below w0.heap.size w0 w' ∧ Kept w w' (fun k_ => P0_0_ k_) := by
 have hu24 := Try.underlying24
 have HO0_0 := Aside0.mk (show Kd.R k35 35 w w0.heap.size (fun k_ => (P0_0_ k_ ∨ w.heap.size ≤ k_)) u9000_ l0_0 from Kd.R_mono ho0_0 (fun k_ hk => (.inl hk)))
 have HK := Aside0.mk (Kept.refl w (fun k_ => P0_0_ k_))
 have HW0 := Aside0.mk hB.size
 have HB := Aside0.mk hB
 clear hB
 have H : (if a0_2 = 0 then (some (l0_0, true, a0_2, false)) else (if a0_2 > 0 then (some (l0_0, a0_1, wrap64 (a0_2 - 1), true)) else (some (l0_0, a0_1, a0_2, true)))) = some (r1, r2, r3, r4) := h
 clear h
 by_cases c2 : a0_2 = 0
 ·rw [if_pos c2] at H
  have c2b0 : (a0_2 == 0) = true := beq_iff_eq.mpr c2
  have c2b1 : (a0_2 != 0) = false := bne_eq_false_iff_eq.mpr c2
  clear c2
  simp only [Option.some.injEq, Prod.mk.injEq] at H
  obtain ⟨rfl, rfl, rfl, rfl⟩ := H
  obtain ⟨Ao3, co3, eo3⟩ := Kd.R_slice HO0_0.out
  subst eo3
  go_enter Try.func40, Try.ntmps40
  go_wp2_with (first | ((with_reducible refine gate_dst (N := 1) rfl ?_); refine box_event ?hg (N := 1) ?hd (cs := #[.slice Ao3 l0_0.length co3, .bool a0_1, .int .i64 a0_2]) (t := 24) ?hr ?_; (case hd => rfl); (case hg => rfl); (case hr => first | (go_simp; done) | (go_simp; rfl)); intro gb289 hg w4 hbox hb; replace HO0_0 := Aside0.mk (Kd.R_below (by (with_reducible repeat (first | apply Kd.R_alloc | apply Kd.R_drewN | apply Kd.R_drew)); exact HO0_0.out) hb); have BK289 := Aside0.mk (hbox); have GW289 := Aside0.mk ((by rw [hg]; exact (by first | exact HK.out.1 | exact (show Kept w _ (fun k_ => P0_0_ k_) from by repeat (first | (with_reducible first | exact HK.out | apply Kept.alloc | apply Kept.drewN | apply Kept.drew) | exact HK.out)).1) : w.heap.size ≤ gb289)); replace HK := Aside0.mk (Kept.below (S := (fun k_ => P0_0_ k_)) (by repeat (first | (with_reducible first | exact HK.out | apply Kept.alloc | apply Kept.drewN | apply Kept.drew) | exact HK.out)) hb); have GE289 := Aside0.mk (bs_0 hg HB); replace HB := Aside0.mk (below_step (bl_ HB) hb); clear hb hbox hg) | ((with_reducible refine gate_dst (N := 2) rfl ?_); refine box_event ?hg (N := 2) ?hd (cs := #[.slice none 0 0, .bool false, .int .i64 0]) (t := 24) ?hr ?_; (case hd => rfl); (case hg => rfl); (case hr => first | (go_simp; done) | (go_simp; rfl)); intro gb290 hg w5 hbox hb; replace HO0_0 := Aside0.mk (Kd.R_below (by (with_reducible repeat (first | apply Kd.R_alloc | apply Kd.R_drewN | apply Kd.R_drew)); exact HO0_0.out) hb); have BK290 := Aside0.mk (hbox); have GW290 := Aside0.mk ((by rw [hg]; exact (by first | exact HK.out.1 | exact (show Kept w _ (fun k_ => P0_0_ k_) from by repeat (first | (with_reducible first | exact HK.out | apply Kept.alloc | apply Kept.drewN | apply Kept.drew | refine Kept.setCell ?_ (.inr GW289.out) _) | exact HK.out)).1) : w.heap.size ≤ gb290)); replace HK := Aside0.mk (Kept.below (S := (fun k_ => P0_0_ k_)) (by repeat (first | (with_reducible first | exact HK.out | apply Kept.alloc | apply Kept.drewN | apply Kept.drew | refine Kept.setCell ?_ (.inr GW289.out) _) | exact HK.out)) hb); have GE290 := Aside0.mk (bs_1 hg HB GE289); replace HB := Aside0.mk (below_step (bl_1 HB GE289) hb); have NB289_290 := Aside0.mk (nb_ hg BK289); have NB290_289 := Aside0.mk (nc_ hg BK289); replace BK289 := Aside0.mk (bb_ BK289 hb); clear hb hbox hg; have hnb6 := NB289_290.out; have hnc6 := NB290_289.out; obtain ⟨hcz7_0, hcz7_1, hcz7_2, hfz7_0, hfz7_1, hfz7_2⟩ := c3_ BK289; obtain ⟨hcz8_0, hcz8_1, hcz8_2, hfz8_0, hfz8_1, hfz8_2⟩ := c3_ BK290))
  refine bodyPost_ret (results_ct rfl _ _ gb290 24 #[.slice Ao3 l0_0.length co3, .bool true, .int .i64 a0_2] (0, 0) _ rfl (bp_1 BK290 NB290_289) Try.underlying24 rfl (by kernel_rfl)) rfl ?_
  exact ⟨_, by first | rfl | (simp; done) | (simp [*]; done), by (with_reducible repeat (first | apply Kd.R_alloc | apply Kd.R_drewN | apply Kd.R_drew)); exact Kd.R_mono (Kd.R_far (p := ⟨gb290, 2, none⟩) (Kd.R_far (p := ⟨gb290, 1, none⟩) (Kd.R_far (p := ⟨gb290, 0, none⟩) (Kd.R_far (p := ⟨gb289, 1, none⟩) (Kd.R_types (Kd.R_types HO0_0.out BK289.out (by decide)) BK290.out (by decide)) (fun _ hk => hk.1.2) (.bool true)) (fun _ hk => hk.2) (.slice Ao3 l0_0.length co3)) (fun _ hk => hk.2) (.bool true)) (fun _ hk => hk.2) (.int .i64 a0_2)) (fun _ hk => hk.1.1), bl_2 HB GE289 GE290, by repeat (first | (with_reducible first | exact HK.out | apply Kept.alloc | apply Kept.drewN | apply Kept.drew | refine Kept.setCell ?_ (.inr GW289.out) _ | refine Kept.setCell ?_ (.inr GW290.out) _) | exact HK.out)⟩
 ·rw [if_neg c2] at H
  have c2b0 : (a0_2 == 0) = false := beq_eq_false_iff_ne.mpr c2
  have c2b1 : (a0_2 != 0) = true := bne_iff_ne.mpr c2
  by_cases c9 : a0_2 > 0
  ·rw [if_pos c9] at H
   have c9b0 : decide (0 < a0_2) = true := decide_eq_true c9
   clear c9
   simp only [Option.some.injEq, Prod.mk.injEq] at H
   obtain ⟨rfl, rfl, rfl, rfl⟩ := H
   obtain ⟨Ao10, co10, eo10⟩ := Kd.R_slice HO0_0.out
   subst eo10
   go_enter Try.func40, Try.ntmps40
   go_wp2_with (first | ((with_reducible refine gate_dst (N := 1) rfl ?_); refine box_event ?hg (N := 1) ?hd (cs := #[.slice Ao10 l0_0.length co10, .bool a0_1, .int .i64 a0_2]) (t := 24) ?hr ?_; (case hd => rfl); (case hg => rfl); (case hr => first | (go_simp; done) | (go_simp; rfl)); intro gb289 hg w11 hbox hb; replace HO0_0 := Aside0.mk (Kd.R_below (by (with_reducible repeat (first | apply Kd.R_alloc | apply Kd.R_drewN | apply Kd.R_drew)); exact HO0_0.out) hb); have BK289 := Aside0.mk (hbox); have GW289 := Aside0.mk ((by rw [hg]; exact (by first | exact HK.out.1 | exact (show Kept w _ (fun k_ => P0_0_ k_) from by repeat (first | (with_reducible first | exact HK.out | apply Kept.alloc | apply Kept.drewN | apply Kept.drew) | exact HK.out)).1) : w.heap.size ≤ gb289)); replace HK := Aside0.mk (Kept.below (S := (fun k_ => P0_0_ k_)) (by repeat (first | (with_reducible first | exact HK.out | apply Kept.alloc | apply Kept.drewN | apply Kept.drew) | exact HK.out)) hb); have GE289 := Aside0.mk (bs_0 hg HB); replace HB := Aside0.mk (below_step (bl_ HB) hb); clear hb hbox hg) | ((with_reducible refine gate_dst (N := 2) rfl ?_); refine box_event ?hg (N := 2) ?hd (cs := #[.slice none 0 0, .bool false, .int .i64 0]) (t := 24) ?hr ?_; (case hd => rfl); (case hg => rfl); (case hr => first | (go_simp; done) | (go_simp; rfl)); intro gb290 hg w12 hbox hb; replace HO0_0 := Aside0.mk (Kd.R_below (by (with_reducible repeat (first | apply Kd.R_alloc | apply Kd.R_drewN | apply Kd.R_drew)); exact HO0_0.out) hb); have BK290 := Aside0.mk (hbox); have GW290 := Aside0.mk ((by rw [hg]; exact (by first | exact HK.out.1 | exact (show Kept w _ (fun k_ => P0_0_ k_) from by repeat (first | (with_reducible first | exact HK.out | apply Kept.alloc | apply Kept.drewN | apply Kept.drew | refine Kept.setCell ?_ (.inr GW289.out) _) | exact HK.out)).1) : w.heap.size ≤ gb290)); replace HK := Aside0.mk (Kept.below (S := (fun k_ => P0_0_ k_)) (by repeat (first | (with_reducible first | exact HK.out | apply Kept.alloc | apply Kept.drewN | apply Kept.drew | refine Kept.setCell ?_ (.inr GW289.out) _) | exact HK.out)) hb); have GE290 := Aside0.mk (bs_1 hg HB GE289); replace HB := Aside0.mk (below_step (bl_1 HB GE289) hb); have NB289_290 := Aside0.mk (nb_ hg BK289); have NB290_289 := Aside0.mk (nc_ hg BK289); replace BK289 := Aside0.mk (bb_ BK289 hb); clear hb hbox hg; have hnb13 := NB289_290.out; have hnc13 := NB290_289.out; obtain ⟨hcz14_0, hcz14_1, hcz14_2, hfz14_0, hfz14_1, hfz14_2⟩ := c3_ BK289; obtain ⟨hcz15_0, hcz15_1, hcz15_2, hfz15_0, hfz15_1, hfz15_2⟩ := c3_ BK290))
   refine bodyPost_ret (results_ct rfl _ _ gb290 24 #[.slice Ao10 l0_0.length co10, .bool a0_1, .int .i64 (wrap64 (a0_2 - 1))] (0, 0) _ rfl (bp_1 BK290 NB290_289) Try.underlying24 rfl (by kernel_rfl)) rfl ?_
   exact ⟨_, by first | rfl | (simp; done) | (simp [*]; done), by (with_reducible repeat (first | apply Kd.R_alloc | apply Kd.R_drewN | apply Kd.R_drew)); exact Kd.R_mono (Kd.R_far (p := ⟨gb290, 2, none⟩) (Kd.R_far (p := ⟨gb290, 1, none⟩) (Kd.R_far (p := ⟨gb290, 0, none⟩) (Kd.R_far (p := ⟨gb289, 2, none⟩) (Kd.R_types (Kd.R_types HO0_0.out BK289.out (by decide)) BK290.out (by decide)) (fun _ hk => hk.1.2) (.int .i64 (wrap64 (a0_2 - 1)))) (fun _ hk => hk.2) (.slice Ao10 l0_0.length co10)) (fun _ hk => hk.2) (.bool a0_1)) (fun _ hk => hk.2) (.int .i64 (wrap64 (a0_2 - 1)))) (fun _ hk => hk.1.1), bl_2 HB GE289 GE290, by repeat (first | (with_reducible first | exact HK.out | apply Kept.alloc | apply Kept.drewN | apply Kept.drew | refine Kept.setCell ?_ (.inr GW289.out) _ | refine Kept.setCell ?_ (.inr GW290.out) _) | exact HK.out)⟩
  ·rw [if_neg c9] at H
   have c9b0 : decide (0 < a0_2) = false := decide_eq_false c9
   clear c9
   simp only [Option.some.injEq, Prod.mk.injEq] at H
   obtain ⟨rfl, rfl, rfl, rfl⟩ := H
   obtain ⟨Ao16, co16, eo16⟩ := Kd.R_slice HO0_0.out
   subst eo16
   go_enter Try.func40, Try.ntmps40
   go_wp2_with (first | ((with_reducible refine gate_dst (N := 1) rfl ?_); refine box_event ?hg (N := 1) ?hd (cs := #[.slice Ao16 l0_0.length co16, .bool a0_1, .int .i64 a0_2]) (t := 24) ?hr ?_; (case hd => rfl); (case hg => rfl); (case hr => first | (go_simp; done) | (go_simp; rfl)); intro gb289 hg w17 hbox hb; replace HO0_0 := Aside0.mk (Kd.R_below (by (with_reducible repeat (first | apply Kd.R_alloc | apply Kd.R_drewN | apply Kd.R_drew)); exact HO0_0.out) hb); have BK289 := Aside0.mk (hbox); have GW289 := Aside0.mk ((by rw [hg]; exact (by first | exact HK.out.1 | exact (show Kept w _ (fun k_ => P0_0_ k_) from by repeat (first | (with_reducible first | exact HK.out | apply Kept.alloc | apply Kept.drewN | apply Kept.drew) | exact HK.out)).1) : w.heap.size ≤ gb289)); replace HK := Aside0.mk (Kept.below (S := (fun k_ => P0_0_ k_)) (by repeat (first | (with_reducible first | exact HK.out | apply Kept.alloc | apply Kept.drewN | apply Kept.drew) | exact HK.out)) hb); have GE289 := Aside0.mk (bs_0 hg HB); replace HB := Aside0.mk (below_step (bl_ HB) hb); clear hb hbox hg) | ((with_reducible refine gate_dst (N := 2) rfl ?_); refine box_event ?hg (N := 2) ?hd (cs := #[.slice none 0 0, .bool false, .int .i64 0]) (t := 24) ?hr ?_; (case hd => rfl); (case hg => rfl); (case hr => first | (go_simp; done) | (go_simp; rfl)); intro gb290 hg w18 hbox hb; replace HO0_0 := Aside0.mk (Kd.R_below (by (with_reducible repeat (first | apply Kd.R_alloc | apply Kd.R_drewN | apply Kd.R_drew)); exact HO0_0.out) hb); have BK290 := Aside0.mk (hbox); have GW290 := Aside0.mk ((by rw [hg]; exact (by first | exact HK.out.1 | exact (show Kept w _ (fun k_ => P0_0_ k_) from by repeat (first | (with_reducible first | exact HK.out | apply Kept.alloc | apply Kept.drewN | apply Kept.drew | refine Kept.setCell ?_ (.inr GW289.out) _) | exact HK.out)).1) : w.heap.size ≤ gb290)); replace HK := Aside0.mk (Kept.below (S := (fun k_ => P0_0_ k_)) (by repeat (first | (with_reducible first | exact HK.out | apply Kept.alloc | apply Kept.drewN | apply Kept.drew | refine Kept.setCell ?_ (.inr GW289.out) _) | exact HK.out)) hb); have GE290 := Aside0.mk (bs_1 hg HB GE289); replace HB := Aside0.mk (below_step (bl_1 HB GE289) hb); have NB289_290 := Aside0.mk (nb_ hg BK289); have NB290_289 := Aside0.mk (nc_ hg BK289); replace BK289 := Aside0.mk (bb_ BK289 hb); clear hb hbox hg; have hnb19 := NB289_290.out; have hnc19 := NB290_289.out; obtain ⟨hcz20_0, hcz20_1, hcz20_2, hfz20_0, hfz20_1, hfz20_2⟩ := c3_ BK289; obtain ⟨hcz21_0, hcz21_1, hcz21_2, hfz21_0, hfz21_1, hfz21_2⟩ := c3_ BK290))
   refine bodyPost_ret (results_ct rfl _ _ gb290 24 #[.slice Ao16 l0_0.length co16, .bool a0_1, .int .i64 a0_2] (0, 0) _ rfl (bp_0 BK290) Try.underlying24 rfl (by kernel_rfl)) rfl ?_
   exact ⟨_, by first | rfl | (simp; done) | (simp [*]; done), by (with_reducible repeat (first | apply Kd.R_alloc | apply Kd.R_drewN | apply Kd.R_drew)); exact Kd.R_mono (Kd.R_far (p := ⟨gb290, 2, none⟩) (Kd.R_far (p := ⟨gb290, 1, none⟩) (Kd.R_far (p := ⟨gb290, 0, none⟩) (Kd.R_types HO0_0.out BK290.out (by decide)) (fun _ hk => hk.2) (.slice Ao16 l0_0.length co16)) (fun _ hk => hk.2) (.bool a0_1)) (fun _ hk => hk.2) (.int .i64 a0_2)) (fun _ hk => hk.1), bl_2 HB GE289 GE290, by repeat (first | (with_reducible first | exact HK.out | apply Kept.alloc | apply Kept.drewN | apply Kept.drew | refine Kept.setCell ?_ (.inr GW289.out) _ | refine Kept.setCell ?_ (.inr GW290.out) _) | exact HK.out)⟩

/-! ### gafferref02_with: function 41 -/
mutual
def gafferref02_with.l0 : Nat → List (S35) → Bool → List (S35) → Int → Int → List (S35) → Bool → Int → ByteArray → ByteArray → Int → Option ((List (S35)) × Bool × Int)
 | 0, _, _, _, _, _, _, _, _, _, _, _ => none
 | k + 1, x5, x6, x10, x11, x12, x292000, x292001, x292002, x293000, x293001, x293002 => if x12 < x11 then (if 0 ≤ x12 then (if x12 < (x10.length : Int) then (if x6 = true then (gafferref02_with.j1 k x5 x6 x10 x11 x12 false x292000 x292001 x292002 x293000 x293001 x293002 ((rd_T35 x10 x12).f0) ((rd_T35 x10 x12).f1) ((rd_T35 x10 x12).f2)) else (gafferref02_with.j1 k x5 x6 x10 x11 x12 (!(Op.bytesLess (((rd_T35 x10 x12).f0).toList) x293000.toList)) x292000 x292001 x292002 x293000 x293001 x293002 ((rd_T35 x10 x12).f0) ((rd_T35 x10 x12).f1) ((rd_T35 x10 x12).f2))) else (none)) else (none)) else (if x6 = true then (some (x5, x292001, x292002)) else (if x5.length < 3518437208883 then (some ((x5 ++ [(⟨x293000, x293001, x293002⟩ : S35)]), x292001, x292002)) else (none)))
def gafferref02_with.j1 : Nat → List (S35) → Bool → List (S35) → Int → Int → Bool → List (S35) → Bool → Int → ByteArray → ByteArray → Int → ByteArray → ByteArray → Int → Option ((List (S35)) × Bool × Int)
 | 0, _, _, _, _, _, _, _, _, _, _, _, _, _, _, _ => none
 | k + 1, x5, x6, x10, x11, x12, x24, x292000, x292001, x292002, x293000, x293001, x293002, x299000, x299001, x299002 => if x24 = true then (if x5.length < 3518437208883 then ((some (x5 ++ [(⟨x293000, x293001, x293002⟩ : S35)] : List (S35))).bind fun y299 => (if x299000.toList = x293000.toList then (gafferref02_with.l0 k y299 true x10 x11 (wrap64 (x12 + 1)) x292000 x292001 x292002 x293000 x293001 x293002) else (if y299.length < 3518437208883 then (gafferref02_with.l0 k (y299 ++ [(⟨x299000, x299001, x299002⟩ : S35)]) true x10 x11 (wrap64 (x12 + 1)) x292000 x292001 x292002 x293000 x293001 x293002) else (none)))) else (none)) else (if x299000.toList = x293000.toList then (gafferref02_with.l0 k x5 x6 x10 x11 (wrap64 (x12 + 1)) x292000 x292001 x292002 x293000 x293001 x293002) else (if x5.length < 3518437208883 then (gafferref02_with.l0 k (x5 ++ [(⟨x299000, x299001, x299002⟩ : S35)]) x6 x10 x11 (wrap64 (x12 + 1)) x292000 x292001 x292002 x293000 x293001 x293002) else (none)))
end
def gafferref02_with.f (k : Nat) (l0_0 : List (S35)) (a0_1 : Bool) (a0_2 : Int) (a1_0 : ByteArray) (a1_1 : ByteArray) (a1_2 : Int) : Option ((List (S35)) × Bool × Int) := gafferref02_with.l0 k ([] : List (S35)) false l0_0 (l0_0.length : Int) 0 l0_0 a0_1 a0_2 a1_0 a1_1 a1_2
theorem gafferref02_with.mono_l : ∀ k, (∀ y0 y1 y2 y3 y4 y5 y6 y7 y8 y9 y10, LeO (gafferref02_with.l0 k y0 y1 y2 y3 y4 y5 y6 y7 y8 y9 y10) (gafferref02_with.l0 (k + 1) y0 y1 y2 y3 y4 y5 y6 y7 y8 y9 y10)) ∧ (∀ y0 y1 y2 y3 y4 y5 y6 y7 y8 y9 y10 y11 y12 y13 y14, LeO (gafferref02_with.j1 k y0 y1 y2 y3 y4 y5 y6 y7 y8 y9 y10 y11 y12 y13 y14) (gafferref02_with.j1 (k + 1) y0 y1 y2 y3 y4 y5 y6 y7 y8 y9 y10 y11 y12 y13 y14))
 | 0 => ⟨fun _ _ _ _ _ _ _ _ _ _ _ r h => by simp [gafferref02_with.l0] at h, fun _ _ _ _ _ _ _ _ _ _ _ _ _ _ _ r h => by simp [gafferref02_with.j1] at h⟩
 | k + 1 => by
  obtain ⟨ih0, ih1⟩ := gafferref02_with.mono_l k
  refine ⟨?_, ?_⟩
  ·intro y0 y1 y2 y3 y4 y5 y6 y7 y8 y9 y10
   unfold gafferref02_with.l0
   repeat' first
   | (with_reducible exact ih0 _ _ _ _ _ _ _ _ _ _ _)
   | (with_reducible exact ih1 _ _ _ _ _ _ _ _ _ _ _ _ _ _ _)
   | (with_reducible exact LeO.refl _)
   | (with_reducible exact LeO.none _)
   | (with_reducible refine LeO.ite ?_ ?_)
   | (with_reducible refine LeO.bind ?_ (fun _ => ?_))
   | exact ih0 _ _ _ _ _ _ _ _ _ _ _
   | exact ih1 _ _ _ _ _ _ _ _ _ _ _ _ _ _ _
   | exact LeO.none _
   | refine LeO.ite ?_ ?_
   | refine LeO.bind ?_ (fun _ => ?_)
  ·intro y0 y1 y2 y3 y4 y5 y6 y7 y8 y9 y10 y11 y12 y13 y14
   unfold gafferref02_with.j1
   repeat' first
   | (with_reducible exact ih0 _ _ _ _ _ _ _ _ _ _ _)
   | (with_reducible exact ih1 _ _ _ _ _ _ _ _ _ _ _ _ _ _ _)
   | (with_reducible exact LeO.refl _)
   | (with_reducible exact LeO.none _)
   | (with_reducible refine LeO.ite ?_ ?_)
   | (with_reducible refine LeO.bind ?_ (fun _ => ?_))
   | exact ih0 _ _ _ _ _ _ _ _ _ _ _
   | exact ih1 _ _ _ _ _ _ _ _ _ _ _ _ _ _ _
   | exact LeO.none _
   | refine LeO.ite ?_ ?_
   | refine LeO.bind ?_ (fun _ => ?_)
theorem gafferref02_with.mono : ∀ a0 a1 a2 a3 a4 a5 k, LeO (gafferref02_with.f k a0 a1 a2 a3 a4 a5) (gafferref02_with.f (k + 1) a0 a1 a2 a3 a4 a5) := by
 intro a0 a1 a2 a3 a4 a5 k
 obtain ⟨ih0, ih1⟩ := gafferref02_with.mono_l k
 unfold gafferref02_with.f
 repeat' first
   | (with_reducible exact ih0 _ _ _ _ _ _ _ _ _ _ _)
   | (with_reducible exact ih1 _ _ _ _ _ _ _ _ _ _ _ _ _ _ _)
   | (with_reducible exact LeO.refl _)
   | (with_reducible exact LeO.none _)
   | (with_reducible refine LeO.ite ?_ ?_)
   | (with_reducible refine LeO.bind ?_ (fun _ => ?_))
   | exact ih0 _ _ _ _ _ _ _ _ _ _ _
   | exact ih1 _ _ _ _ _ _ _ _ _ _ _ _ _ _ _
   | exact LeO.none _
   | refine LeO.ite ?_ ?_
   | refine LeO.bind ?_ (fun _ => ?_)
set_option maxHeartbeats 80000000 in
set_option maxRecDepth 100000 in
theorem gafferref02_with.calls (k : Nat) (A0_0 : Option Addr) (c0_0 : Nat) (l0_0 : List (S35)) (a0_1 : Bool) (a0_2 : Int) (a1_0 : ByteArray) (a1_1 : ByteArray) (a1_2 : Int) (r1 : List (S35)) (r2 : Bool) (r3 : Int) (w : World) (hr0_0 : Kd.C k35 w A0_0 l0_0.length l0_0) (hc0_0 : l0_0.length ≤ c0_0) (h : gafferref02_with.f k l0_0 a0_1 a0_2 a1_0 a1_1 a1_2 = some (r1, r2, r3)) :
  Calls Try.prog 41 #[.agg #[.slice A0_0 l0_0.length c0_0, .bool a0_1, .int .i64 a0_2], .agg #[.string a1_0, .string a1_1, .int .i64 a1_2]] w fun e w' => ∃ v0_ : Value, e = .returned (.agg #[v0_, .bool r2, .int .i64 r3]) ∧ Kd.R k35 35 w' w.heap.size (fun _ => True) v0_ r1 ∧ Below w.heap.size w w' := by
 have hu24 := Try.underlying24
 have hu35 := Try.underlying35
 have HR0_0 := Aside0.mk hr0_0
 have HC0_0 := Aside0.mk hc0_0
 clear hr0_0 hc0_0
 have HB := Aside0.mk (Below.refl w.heap.size w)
 have H : (gafferref02_with.l0 k ([] : List (S35)) false l0_0 (l0_0.length : Int) 0 l0_0 a0_1 a0_2 a1_0 a1_1 a1_2) = some (r1, r2, r3) := h
 clear h
 have H' := Aside0.mk H
 clear H
 go_enter Try.func41, Try.ntmps41
 go_wp2_with (first | ((with_reducible refine gate_dst (N := 2) rfl ?_); refine box_event ?hg (N := 2) ?hd (cs := #[.slice A0_0 l0_0.length c0_0, .bool a0_1, .int .i64 a0_2]) (t := 24) ?hr ?_; (case hd => rfl); (case hg => rfl); (case hr => first | (go_simp; done) | (go_simp; rfl)); intro gb291 hg w3 hbox hb; have BK291 := Aside0.mk (hbox); have GW291 := Aside0.mk (bs_0 hg HB); have GE291 := Aside0.mk (bs_0 hg HB); replace HB := Aside0.mk (below_step (bl_ HB) hb); clear hb hbox hg) | ((with_reducible refine gate_dst (N := 3) rfl ?_); refine box_event ?hg (N := 3) ?hd (cs := #[.string a1_0, .string a1_1, .int .i64 a1_2]) (t := 35) ?hr ?_; (case hd => rfl); (case hg => rfl); (case hr => first | (go_simp; done) | (go_simp; rfl)); intro gb292 hg w4 hbox hb; have BK292 := Aside0.mk (hbox); have GW292 := Aside0.mk (bs_1 hg HB GE291); have GE292 := Aside0.mk (bs_1 hg HB GE291); replace HB := Aside0.mk (below_step (bl_1 HB GE291) hb); have NB291_292 := Aside0.mk (nb_ hg BK291); have NB292_291 := Aside0.mk (nc_ hg BK291); replace BK291 := Aside0.mk (bb_ BK291 hb); clear hb hbox hg) | ((with_reducible refine gate_dst (N := 4) rfl ?_); refine box_event ?hg (N := 4) ?hd (cs := #[.slice none 0 0, .bool false, .int .i64 0]) (t := 24) ?hr ?_; (case hd => rfl); (case hg => rfl); (case hr => first | (go_simp; done) | (go_simp; rfl)); intro gb293 hg w5 hbox hb; have BK293 := Aside0.mk (hbox); have GW293 := Aside0.mk (bs_2 hg HB GE291 GE292); have GE293 := Aside0.mk (bs_2 hg HB GE291 GE292); replace HB := Aside0.mk (below_step (bl_2 HB GE291 GE292) hb); have NB291_293 := Aside0.mk (nb_ hg BK291); have NB293_291 := Aside0.mk (nc_ hg BK291); replace BK291 := Aside0.mk (bb_ BK291 hb); have NB292_293 := Aside0.mk (nb_ hg BK292); have NB293_292 := Aside0.mk (nc_ hg BK292); replace BK292 := Aside0.mk (bb_ BK292 hb); clear hb hbox hg; have hnb6 := NB291_292.out; have hnc6 := NB292_291.out; have hnb7 := NB291_293.out; have hnc7 := NB293_291.out; obtain ⟨hcz8_0, hcz8_1, hcz8_2, hfz8_0, hfz8_1, hfz8_2⟩ := c3_ BK291))
 go_loopg [5, 6, 12] k (fun kq v5 v6 v12 w' => ∃ (x5_1 : List (S35)) (x6_1 : Bool) (x12_1 : Int), v6 = .bool x6_1 ∧ v12 = .int .i64 x12_1 ∧ Aside0 (gafferref02_with.l0 kq x5_1 x6_1 l0_0 (l0_0.length : Int) x12_1 l0_0 a0_1 a0_2 a1_0 a1_1 a1_2 = some (r1, r2, r3)) ∧ Aside0 (kq ≤ k) ∧ Aside0 (Kd.R k35 35 w' w.heap.size (fun k_ => k_ ≠ gb292) v5 x5_1) ∧ Aside0 (w'.heap[gb291]? = some (.cells #[(.slice A0_0 l0_0.length c0_0), .bool a0_1, .int .i64 a0_2] 24 (0, 0))) ∧ Aside0 (w'.heap[gb292]? = some (.cells #[.string a1_0, .string a1_1, .int .i64 a1_2] 35 (0, 0))) ∧ Aside0 (w'.heap[gb293]? = some (.cells #[(.slice none 0 0), .bool false, .int .i64 0] 24 (0, 0))) ∧ Aside0 (Below w.heap.size w w'))
 case atStart => exact ⟨(([] : List (S35))), (false), (0), (by first | rfl | (simp; done) | (simp [*]; done)), (by first | rfl | (simp; done) | (simp [*]; done)), H', ⟨Nat.le_refl _⟩, ⟨by first | exact Kd.R_nil _ _ _ _ _ | exact Kd.N_nil _ _ _ _ _ | exact Kd.V_nil _ _ _ _ _ | exact Kd.Q_nil _ _ _ _ _ | exact Kd.S_nil _ _ _ _ _⟩, ⟨bk_ BK291⟩, ⟨bk_ BK292⟩, ⟨bk_ BK293⟩, ⟨bl_3 HB GE291 GE292 GE293⟩⟩
 case round =>
  clear H'
  try clear p2
  try clear c4
  try clear c6
  try clear c7
  try clear hcz8_0
  try clear hcz8_1
  try clear hcz8_2
  try clear hfz8_0
  try clear hfz8_1
  try clear hfz8_2
  obtain ⟨x5_1, x6_1, x12_1, rfl, rfl, HA, HK1, HO_5, BK291, BK292, BK293, HB⟩ := hrel
  cases gk with
  | zero => exact absurd HA.out (by simp [gafferref02_with.l0])
  | succ k1 =>
   have H := HA.out
   clear HA
   simp only [gafferref02_with.l0] at H
   by_cases c9 : x12_1 < (l0_0.length : Int)
   ·rw [if_pos c9] at H
    have c9b0 : decide (x12_1 < (l0_0.length : Int)) = true := decide_eq_true c9
    clear c9
    by_cases c10 : 0 ≤ x12_1
    ·rw [if_pos c10] at H
     have c10b0 : decide (0 ≤ x12_1) = true := decide_eq_true c10
     clear c10
     by_cases c11 : x12_1 < (l0_0.length : Int)
     ·rw [if_pos c11] at H
      have c11b0 : decide (x12_1 < (l0_0.length : Int)) = true := decide_eq_true c11
      clear c11
      have HC12 := Aside0.mk H
      clear H
      have p297 : 0 ≤ (x12_1 : Int) := of_decide_eq_true (by first | (with_reducible assumption) | assumption)
      have q297 : x12_1 < (l0_0.length : Int) := of_decide_eq_true (by first | (with_reducible assumption) | assumption)
      obtain ⟨ad297, e297, hx297_0, hx297_1, hx297_2⟩ := at_T35 HR0_0.out x12_1 p297 q297
      cases e297
      replace hx297_0 := (HB.out.cell (World.block_lt_of_cell? w _ hx297_0)).trans hx297_0
      replace hx297_1 := (HB.out.cell (World.block_lt_of_cell? w _ hx297_1)).trans hx297_1
      replace hx297_2 := (HB.out.cell (World.block_lt_of_cell? w _ hx297_2)).trans hx297_2
      replace p297 := eq_true p297
      replace q297 := eq_true q297
      go_upto_region 6 with (first | ((with_reducible refine gate_dst (N := 8) rfl ?_); refine box_event ?hg (N := 8) ?hd (cs := #[.string (⟨#[]⟩ : ByteArray), .string (⟨#[]⟩ : ByteArray), .int .i64 0]) (t := 35) ?hr ?_; (case hd => rfl); (case hg => rfl); (case hr => first | (go_simp; done) | (go_simp; rfl)); intro gb298 hg w13 hbox hb; replace HO_5 := Aside0.mk (Kd.R_below (Kd.R_elderB (by (with_reducible repeat (first | apply Kd.R_alloc | apply Kd.R_drewN | apply Kd.R_drew)); exact HO_5.out) gb298 (Nat.le_of_eq hg.symm)) hb); have BK298 := Aside0.mk (hbox); have GW298 := Aside0.mk (bs_3 hg HB GE291 GE292 GE293); have GE298 := Aside0.mk (bs_3 hg HB GE291 GE292 GE293); replace HB := Aside0.mk (below_step (bl_3 HB GE291 GE292 GE293) hb); have NB291_298 := Aside0.mk (nb_ hg BK291); have NB298_291 := Aside0.mk (nc_ hg BK291); replace BK291 := Aside0.mk (bb_ BK291 hb); have NB292_298 := Aside0.mk (nb_ hg BK292); have NB298_292 := Aside0.mk (nc_ hg BK292); replace BK292 := Aside0.mk (bb_ BK292 hb); have NB293_298 := Aside0.mk (nb_ hg BK293); have NB298_293 := Aside0.mk (nc_ hg BK293); replace BK293 := Aside0.mk (bb_ BK293 hb); clear hb hbox hg; have hnb14 := NB298_291.out; have hnc14 := NB291_298.out; have hnb15 := NB298_292.out; have hnc15 := NB292_298.out; have hnb16 := NB298_293.out; have hnc16 := NB293_298.out; obtain ⟨hcz17_0, hcz17_1, hcz17_2, hfz17_0, hfz17_1, hfz17_2⟩ := c3_ BK298))
      (try simp only [Act.put, List.setIfInBounds_toArray, List.set_cons_zero, List.set_cons_succ])
      go_cut [24] (fun v24 wc => ∃ (kq : Nat) (x24_11 : Bool), v24 = .bool x24_11 ∧ Aside0 (gafferref02_with.j1 kq x5_1 x6_1 l0_0 (l0_0.length : Int) x12_1 x24_11 l0_0 a0_1 a0_2 a1_0 a1_1 a1_2 ((rd_T35 l0_0 x12_1).f0) ((rd_T35 l0_0 x12_1).f1) ((rd_T35 l0_0 x12_1).f2) = some (r1, r2, r3)) ∧ Aside0 (kq ≤ k1) ∧ Aside0 (Kd.R k35 35 wc w.heap.size (fun k_ => k_ ≠ gb292 ∧ k_ ≠ gb298) u5 x5_1) ∧ Aside0 (wc.heap[gb291]? = some (.cells #[(.slice (some ad297) l0_0.length c0_0), .bool a0_1, .int .i64 a0_2] 24 (0, 0))) ∧ Aside0 (wc.heap[gb292]? = some (.cells #[.string a1_0, .string a1_1, .int .i64 a1_2] 35 (0, 0))) ∧ Aside0 (wc.heap[gb293]? = some (.cells #[(.slice none 0 0), .bool false, .int .i64 0] 24 (0, 0))) ∧ Aside0 (wc.heap[gb298]? = some (.cells #[.string ((rd_T35 l0_0 x12_1).f0), .string ((rd_T35 l0_0 x12_1).f1), .int .i64 ((rd_T35 l0_0 x12_1).f2)] 35 (0, 0))) ∧ Aside0 (Below w.heap.size w wc))
      case first =>
       have H := HC12.out
       clear HC12
       by_cases c18 : x6_1 = true
       ·subst c18
        have H1 : (gafferref02_with.j1 k1 x5_1 true l0_0 (l0_0.length : Int) x12_1 false l0_0 a0_1 a0_2 a1_0 a1_1 a1_2 ((rd_T35 l0_0 x12_1).f0) ((rd_T35 l0_0 x12_1).f1) ((rd_T35 l0_0 x12_1).f2)) = some (r1, r2, r3) := by rw [if_pos rfl] at H; exact H
        clear H
        have H := H1
        clear H1
        have H' := Aside0.mk H
        clear H
        go_wp2
        try go_wp2
        go_meet
        case rel => exact ⟨_, (false), (by first | rfl | (simp; done) | (simp [*]; done)), H', ⟨by have := HK1.out; first | omega | exact Nat.le_refl _⟩, ⟨by (with_reducible repeat (first | apply Kd.R_alloc | apply Kd.R_drewN | apply Kd.R_drew)); exact Kd.R_mono (Kd.R_far (p := ⟨gb298, 2, none⟩) (Kd.R_far (p := ⟨gb298, 1, none⟩) (Kd.R_far (p := ⟨gb298, 0, none⟩) (Kd.R_mono HO_5.out (fun k_ hk => (⟨hk, hk.2⟩ : _ ∧ k_ ≠ gb298))) (fun _ hk => hk.2) (.string ((rd_T35 l0_0 x12_1).f0))) (fun _ hk => hk.2) (.string ((rd_T35 l0_0 x12_1).f1))) (fun _ hk => hk.2) (.int .i64 ((rd_T35 l0_0 x12_1).f2))) (fun _ hk => ⟨hk.1.1, hk.1.2⟩)⟩, ⟨by (with_reducible repeat (first | refine blk_drewN ?_ _ | refine blk_drew ?_ | refine blk_alloc ?_ _)); refine blk_far ?_ NB291_298.out _; (with_reducible repeat (first | refine blk_drewN ?_ _ | refine blk_drew ?_ | refine blk_alloc ?_ _)); refine blk_far ?_ NB291_298.out _; (with_reducible repeat (first | refine blk_drewN ?_ _ | refine blk_drew ?_ | refine blk_alloc ?_ _)); refine blk_far ?_ NB291_298.out _; (with_reducible repeat (first | refine blk_drewN ?_ _ | refine blk_drew ?_ | refine blk_alloc ?_ _)); exact BK291.out⟩, ⟨by (with_reducible repeat (first | refine blk_drewN ?_ _ | refine blk_drew ?_ | refine blk_alloc ?_ _)); refine blk_far ?_ NB292_298.out _; (with_reducible repeat (first | refine blk_drewN ?_ _ | refine blk_drew ?_ | refine blk_alloc ?_ _)); refine blk_far ?_ NB292_298.out _; (with_reducible repeat (first | refine blk_drewN ?_ _ | refine blk_drew ?_ | refine blk_alloc ?_ _)); refine blk_far ?_ NB292_298.out _; (with_reducible repeat (first | refine blk_drewN ?_ _ | refine blk_drew ?_ | refine blk_alloc ?_ _)); exact BK292.out⟩, ⟨by (with_reducible repeat (first | refine blk_drewN ?_ _ | refine blk_drew ?_ | refine blk_alloc ?_ _)); refine blk_far ?_ NB293_298.out _; (with_reducible repeat (first | refine blk_drewN ?_ _ | refine blk_drew ?_ | refine blk_alloc ?_ _)); refine blk_far ?_ NB293_298.out _; (with_reducible repeat (first | refine blk_drewN ?_ _ | refine blk_drew ?_ | refine blk_alloc ?_ _)); refine blk_far ?_ NB293_298.out _; (with_reducible repeat (first | refine blk_drewN ?_ _ | refine blk_drew ?_ | refine blk_alloc ?_ _)); exact BK293.out⟩, ⟨by (with_reducible repeat (first | refine blk_drewN ?_ _ | refine blk_drew ?_ | refine blk_alloc ?_ _)); refine blk_put (cs := #[.string ((rd_T35 l0_0 x12_1).f0), .string ((rd_T35 l0_0 x12_1).f1), .int .i64 0]) ?_ 2 _ rfl; (with_reducible repeat (first | refine blk_drewN ?_ _ | refine blk_drew ?_ | refine blk_alloc ?_ _)); refine blk_put (cs := #[.string ((rd_T35 l0_0 x12_1).f0), .string (⟨#[]⟩ : ByteArray), .int .i64 0]) ?_ 1 _ rfl; (with_reducible repeat (first | refine blk_drewN ?_ _ | refine blk_drew ?_ | refine blk_alloc ?_ _)); refine blk_put (cs := #[.string (⟨#[]⟩ : ByteArray), .string (⟨#[]⟩ : ByteArray), .int .i64 0]) ?_ 0 _ rfl; (with_reducible repeat (first | refine blk_drewN ?_ _ | refine blk_drew ?_ | refine blk_alloc ?_ _)); exact BK298.out⟩, ⟨bl_4 HB GE291 GE292 GE293 GE298⟩⟩
       ·replace c18 := Bool.eq_false_iff.mpr c18
        subst c18
        have H1 : (gafferref02_with.j1 k1 x5_1 false l0_0 (l0_0.length : Int) x12_1 (!(Op.bytesLess (((rd_T35 l0_0 x12_1).f0).toList) a1_0.toList)) l0_0 a0_1 a0_2 a1_0 a1_1 a1_2 ((rd_T35 l0_0 x12_1).f0) ((rd_T35 l0_0 x12_1).f1) ((rd_T35 l0_0 x12_1).f2)) = some (r1, r2, r3) := by rw [if_neg (show ¬ (false = true) by decide)] at H; exact H
        clear H
        have H := H1
        clear H1
        have H' := Aside0.mk H
        clear H
        have hnb19 := NB298_291.out
        have hnc19 := NB291_298.out
        have hnb20 := NB298_292.out
        have hnc20 := NB292_298.out
        have hnb21 := NB298_293.out
        have hnc21 := NB293_298.out
        obtain ⟨hcz22_0, hcz22_1, hcz22_2, hfz22_0, hfz22_1, hfz22_2⟩ := c3_ BK298
        have hnb23 := NB292_291.out
        have hnc23 := NB291_292.out
        have hnb24 := NB292_293.out
        have hnc24 := NB293_292.out
        obtain ⟨hcz25_0, hcz25_1, hcz25_2, hfz25_0, hfz25_1, hfz25_2⟩ := c3_ BK292
        go_wp2
        try go_wp2
        go_meet
        case rel => exact ⟨_, (!(Op.bytesLess (((rd_T35 l0_0 x12_1).f0).toList) a1_0.toList)), (by first | rfl | (simp; done) | (simp [*]; done)), H', ⟨by have := HK1.out; first | omega | exact Nat.le_refl _⟩, ⟨by (with_reducible repeat (first | apply Kd.R_alloc | apply Kd.R_drewN | apply Kd.R_drew)); exact Kd.R_mono (Kd.R_far (p := ⟨gb298, 2, none⟩) (Kd.R_far (p := ⟨gb298, 1, none⟩) (Kd.R_far (p := ⟨gb298, 0, none⟩) (Kd.R_mono HO_5.out (fun k_ hk => (⟨hk, hk.2⟩ : _ ∧ k_ ≠ gb298))) (fun _ hk => hk.2) (.string ((rd_T35 l0_0 x12_1).f0))) (fun _ hk => hk.2) (.string ((rd_T35 l0_0 x12_1).f1))) (fun _ hk => hk.2) (.int .i64 ((rd_T35 l0_0 x12_1).f2))) (fun _ hk => ⟨hk.1.1, hk.1.2⟩)⟩, ⟨by (with_reducible repeat (first | refine blk_drewN ?_ _ | refine blk_drew ?_ | refine blk_alloc ?_ _)); refine blk_far ?_ NB291_298.out _; (with_reducible repeat (first | refine blk_drewN ?_ _ | refine blk_drew ?_ | refine blk_alloc ?_ _)); refine blk_far ?_ NB291_298.out _; (with_reducible repeat (first | refine blk_drewN ?_ _ | refine blk_drew ?_ | refine blk_alloc ?_ _)); refine blk_far ?_ NB291_298.out _; (with_reducible repeat (first | refine blk_drewN ?_ _ | refine blk_drew ?_ | refine blk_alloc ?_ _)); exact BK291.out⟩, ⟨by (with_reducible repeat (first | refine blk_drewN ?_ _ | refine blk_drew ?_ | refine blk_alloc ?_ _)); refine blk_far ?_ NB292_298.out _; (with_reducible repeat (first | refine blk_drewN ?_ _ | refine blk_drew ?_ | refine blk_alloc ?_ _)); refine blk_far ?_ NB292_298.out _; (with_reducible repeat (first | refine blk_drewN ?_ _ | refine blk_drew ?_ | refine blk_alloc ?_ _)); refine blk_far ?_ NB292_298.out _; (with_reducible repeat (first | refine blk_drewN ?_ _ | refine blk_drew ?_ | refine blk_alloc ?_ _)); exact BK292.out⟩, ⟨by (with_reducible repeat (first | refine blk_drewN ?_ _ | refine blk_drew ?_ | refine blk_alloc ?_ _)); refine blk_far ?_ NB293_298.out _; (with_reducible repeat (first | refine blk_drewN ?_ _ | refine blk_drew ?_ | refine blk_alloc ?_ _)); refine blk_far ?_ NB293_298.out _; (with_reducible repeat (first | refine blk_drewN ?_ _ | refine blk_drew ?_ | refine blk_alloc ?_ _)); refine blk_far ?_ NB293_298.out _; (with_reducible repeat (first | refine blk_drewN ?_ _ | refine blk_drew ?_ | refine blk_alloc ?_ _)); exact BK293.out⟩, ⟨by (with_reducible repeat (first | refine blk_drewN ?_ _ | refine blk_drew ?_ | refine blk_alloc ?_ _)); refine blk_put (cs := #[.string ((rd_T35 l0_0 x12_1).f0), .string ((rd_T35 l0_0 x12_1).f1), .int .i64 0]) ?_ 2 _ rfl; (with_reducible repeat (first | refine blk_drewN ?_ _ | refine blk_drew ?_ | refine blk_alloc ?_ _)); refine blk_put (cs := #[.string ((rd_T35 l0_0 x12_1).f0), .string (⟨#[]⟩ : ByteArray), .int .i64 0]) ?_ 1 _ rfl; (with_reducible repeat (first | refine blk_drewN ?_ _ | refine blk_drew ?_ | refine blk_alloc ?_ _)); refine blk_put (cs := #[.string (⟨#[]⟩ : ByteArray), .string (⟨#[]⟩ : ByteArray), .int .i64 0]) ?_ 0 _ rfl; (with_reducible repeat (first | refine blk_drewN ?_ _ | refine blk_drew ?_ | refine blk_alloc ?_ _)); exact BK298.out⟩, ⟨bl_4 HB GE291 GE292 GE293 GE298⟩⟩
      case rest =>
       clear HC12
       try clear c1
       try clear c2
       try clear p2
       try clear q2
       try clear hx2
       try clear c4
       try clear c6
       try clear c7
       try clear c9
       try clear c9b0
       try clear c10
       try clear c10b0
       try clear c11
       try clear c11b0
       try clear c14
       try clear c15
       try clear c16
       try clear c18
       try clear c19
       try clear c20
       try clear c21
       try clear c23
       try clear c24
       try clear hcz17_0
       try clear hcz17_1
       try clear hcz17_2
       try clear hcz22_0
       try clear hcz22_1
       try clear hcz22_2
       try clear hcz25_0
       try clear hcz25_1
       try clear hcz25_2
       try clear hcz8_0
       try clear hcz8_1
       try clear hcz8_2
       try clear hfz17_0
       try clear hfz17_1
       try clear hfz17_2
       try clear hfz22_0
       try clear hfz22_1
       try clear hfz22_2
       try clear hfz25_0
       try clear hfz25_1
       try clear hfz25_2
       try clear hfz8_0
       try clear hfz8_1
       try clear hfz8_2
       try clear hx297_0
       try clear hx297_1
       try clear hx297_2
       try clear p2
       try clear p297
       try clear q297
       obtain ⟨kq, x24_11, rfl, HA, HJ11, HO_5, BK291, BK292, BK293, BK298, HB⟩ := hcut
       cases kq with
       | zero => exact absurd HA.out (by simp [gafferref02_with.j1])
       | succ kj11 =>
        have H := HA.out
        clear HA
        simp only [gafferref02_with.j1] at H
        by_cases c26 : x24_11 = true
        ·subst c26
         have H1 : (if x5_1.length < 3518437208883 then ((some (x5_1 ++ [(⟨a1_0, a1_1, a1_2⟩ : S35)] : List (S35))).bind fun y299 => (if ((rd_T35 l0_0 x12_1).f0).toList = a1_0.toList then (gafferref02_with.l0 kj11 y299 true l0_0 (l0_0.length : Int) (wrap64 (x12_1 + 1)) l0_0 a0_1 a0_2 a1_0 a1_1 a1_2) else (if y299.length < 3518437208883 then (gafferref02_with.l0 kj11 (y299 ++ [(⟨((rd_T35 l0_0 x12_1).f0), ((rd_T35 l0_0 x12_1).f1), ((rd_T35 l0_0 x12_1).f2)⟩ : S35)]) true l0_0 (l0_0.length : Int) (wrap64 (x12_1 + 1)) l0_0 a0_1 a0_2 a1_0 a1_1 a1_2) else (none)))) else (none)) = some (r1, r2, r3) := by rw [if_pos rfl] at H; exact H
         clear H
         have H := H1
         clear H1
         by_cases c27 : x5_1.length < 3518437208883
         ·rw [if_pos c27] at H
          have LMc27 := Aside0.mk c27
          clear c27
          obtain ⟨y299, hy299⟩ : ∃ y_ : List (S35), y_ = (x5_1 ++ [(⟨a1_0, a1_1, a1_2⟩ : S35)]) := ⟨_, rfl⟩
          replace H : (if ((rd_T35 l0_0 x12_1).f0).toList = a1_0.toList then (gafferref02_with.l0 kj11 y299 true l0_0 (l0_0.length : Int) (wrap64 (x12_1 + 1)) l0_0 a0_1 a0_2 a1_0 a1_1 a1_2) else (if y299.length < 3518437208883 then (gafferref02_with.l0 kj11 (y299 ++ [(⟨((rd_T35 l0_0 x12_1).f0), ((rd_T35 l0_0 x12_1).f1), ((rd_T35 l0_0 x12_1).f2)⟩ : S35)]) true l0_0 (l0_0.length : Int) (wrap64 (x12_1 + 1)) l0_0 a0_1 a0_2 a1_0 a1_1 a1_2) else (none))) = some (r1, r2, r3) := by first | (rw [hy299]; with_reducible exact H) | (have H2_ := (Option.bind_some _ _).symm.trans H; rw [hy299]; with_reducible exact H2_) | (have H2_ := (Option.bind_some _ _).symm.trans H; with_reducible exact H2_) | with_reducible exact H | (rw [hy299]; exact H) | exact H
          have Ny299 := Aside0.mk hy299
          clear hy299
          by_cases c28 : ((rd_T35 l0_0 x12_1).f0).toList = a1_0.toList
          ·rw [if_pos c28] at H
           have c28b0 : (((rd_T35 l0_0 x12_1).f0).toList == a1_0.toList) = true := beq_iff_eq.mpr c28
           have c28b1 : (((rd_T35 l0_0 x12_1).f0).toList != a1_0.toList) = false := bne_eq_false_iff_eq.mpr c28
           clear c28
           have H' := Aside0.mk H
           clear H
           have hnb29 := NB292_291.out
           have hnc29 := NB291_292.out
           have hnb30 := NB292_293.out
           have hnc30 := NB293_292.out
           have hnb31 := NB292_298.out
           have hnc31 := NB298_292.out
           obtain ⟨hcz32_0, hcz32_1, hcz32_2, hfz32_0, hfz32_1, hfz32_2⟩ := c3_ BK292
           go_wp2_with (first | ((with_reducible refine gate_builtin (b := .append) (xs := #[.tmp 25, .tmp 27]) rfl ?_); at_builtin; refine Kd.R_append k35 (w0 := w) w.heap.size rfl (.tmp 25) (.tmp 27) 22 35 (.agg #[(.string ⟨#[]⟩), (.string ⟨#[]⟩), (.int .i64 0)]) 40 rfl Try.underlying22 info35 rfl (by decide) (by omega) u5 x5_1 (⟨a1_0, a1_1, a1_2⟩ : S35) [.string a1_0, .string a1_1, .int .i64 a1_2] (fun k_ => k_ ≠ gb292 ∧ k_ ≠ gb298) (fun _ => False) rfl rfl ?aP (fun _ hk => hk.elim) ?aF ?aO ?aB ?aS ?aL ?_; (case aP => exact k35_mkM _ _ _ (⟨a1_0, a1_1, a1_2⟩ : S35)); (case aB => exact (bl_4 HB GE291 GE292 GE293 GE298)); (case aF => exact (fun k_ hk => ⟨Kd.freshB (g := gb292) (o := .cells #[.string a1_0, .string a1_1, .int .i64 a1_2] 35 (0, 0)) (bk_ BK292) k_ hk, Kd.freshB (g := gb298) (o := .cells #[.string ((rd_T35 l0_0 x12_1).f0), .string ((rd_T35 l0_0 x12_1).f1), .int .i64 ((rd_T35 l0_0 x12_1).f2)] 35 (0, 0)) (bk_ BK298) k_ hk⟩)); (case aO => exact (by (with_reducible repeat (first | apply Kd.R_alloc | apply Kd.R_drewN | apply Kd.R_drew)); exact HO_5.out)); (case aS => exact (below_size (bl_4 HB GE291 GE292 GE293 GE298))); (case aL => have := LMc27.out; omega); intro v300 w33 ho hb hg hat; rw [← Ny299.out] at ho; replace BK291 := Aside0.mk (blk_grown (g := gb291) (o := .cells #[.slice (some ad297) l0_0.length c0_0, .bool a0_1, .int .i64 a0_2] 24 (0, 0)) (bk_ BK291) hg (Kd.R_ne HO_5.out BK291.out (by decide))); replace BK292 := Aside0.mk (blk_grown (g := gb292) (o := .cells #[.string a1_0, .string a1_1, .int .i64 a1_2] 35 (0, 0)) (bk_ BK292) hg (Kd.R_away HO_5.out (fun _ hk => hk.1))); replace BK293 := Aside0.mk (blk_grown (g := gb293) (o := .cells #[.slice none 0 0, .bool false, .int .i64 0] 24 (0, 0)) (bk_ BK293) hg (Kd.R_ne HO_5.out BK293.out (by decide))); replace BK298 := Aside0.mk (blk_grown (g := gb298) (o := .cells #[.string ((rd_T35 l0_0 x12_1).f0), .string ((rd_T35 l0_0 x12_1).f1), .int .i64 ((rd_T35 l0_0 x12_1).f2)] 35 (0, 0)) (bk_ BK298) hg (Kd.R_away HO_5.out (fun _ hk => hk.2))); replace HB := Aside0.mk (hb); have HO301 := Aside0.mk (ho); clear HO_5; clear ho hb hg hat; have hnb34 := NB298_291.out; have hnc34 := NB291_298.out; have hnb35 := NB298_293.out; have hnc35 := NB293_298.out; obtain ⟨hcz36_0, hcz36_1, hcz36_2, hfz36_0, hfz36_1, hfz36_2⟩ := c3_ BK298; obtain ⟨hcz37_0, hcz37_1, hcz37_2, hfz37_0, hfz37_1, hfz37_2⟩ := c3_ BK292))
           go_roundg kj11
           case measure => have := HK1.out; have := HJ11.out; omega
           case rel => exact ⟨(y299), (true), (wrap64 (x12_1 + 1)), (by first | rfl | (simp; done) | (simp [*]; done)), (by first | rfl | (simp; done) | (simp [*]; done)), H', ⟨by have := HK1.out; have := HJ11.out; omega⟩, ⟨by (with_reducible repeat (first | apply Kd.R_alloc | apply Kd.R_drewN | apply Kd.R_drew)); exact Kd.R_mono HO301.out (fun _ hk => hk.1)⟩, ⟨bk_ BK291⟩, ⟨bk_ BK292⟩, ⟨bk_ BK293⟩, ⟨bl_4 HB GE291 GE292 GE293 GE298⟩⟩
          ·rw [if_neg c28] at H
           have c28b0 : (((rd_T35 l0_0 x12_1).f0).toList == a1_0.toList) = false := beq_eq_false_iff_ne.mpr c28
           have c28b1 : (((rd_T35 l0_0 x12_1).f0).toList != a1_0.toList) = true := bne_iff_ne.mpr c28
           by_cases c38 : y299.length < 3518437208883
           ·rw [if_pos c38] at H
            have LMc38 := Aside0.mk c38
            clear c38
            obtain ⟨y302, hy302⟩ : ∃ y_ : List (S35), y_ = (y299 ++ [(⟨((rd_T35 l0_0 x12_1).f0), ((rd_T35 l0_0 x12_1).f1), ((rd_T35 l0_0 x12_1).f2)⟩ : S35)]) := ⟨_, rfl⟩
            replace H : (gafferref02_with.l0 kj11 y302 true l0_0 (l0_0.length : Int) (wrap64 (x12_1 + 1)) l0_0 a0_1 a0_2 a1_0 a1_1 a1_2) = some (r1, r2, r3) := by first | (rw [hy302]; with_reducible exact H) | (have H2_ := (Option.bind_some _ _).symm.trans H; rw [hy302]; with_reducible exact H2_) | (have H2_ := (Option.bind_some _ _).symm.trans H; with_reducible exact H2_) | with_reducible exact H | (rw [hy302]; exact H) | exact H
            have Ny302 := Aside0.mk hy302
            clear hy302
            have H' := Aside0.mk H
            clear H
            have hnb39 := NB292_291.out
            have hnc39 := NB291_292.out
            have hnb40 := NB292_293.out
            have hnc40 := NB293_292.out
            have hnb41 := NB292_298.out
            have hnc41 := NB298_292.out
            obtain ⟨hcz42_0, hcz42_1, hcz42_2, hfz42_0, hfz42_1, hfz42_2⟩ := c3_ BK292
            go_wp2_with (first | ((with_reducible refine gate_builtin (b := .append) (xs := #[.tmp 25, .tmp 27]) rfl ?_); at_builtin; refine Kd.R_append k35 (w0 := w) w.heap.size rfl (.tmp 25) (.tmp 27) 22 35 (.agg #[(.string ⟨#[]⟩), (.string ⟨#[]⟩), (.int .i64 0)]) 40 rfl Try.underlying22 info35 rfl (by decide) (by omega) u5 x5_1 (⟨a1_0, a1_1, a1_2⟩ : S35) [.string a1_0, .string a1_1, .int .i64 a1_2] (fun k_ => k_ ≠ gb292 ∧ k_ ≠ gb298) (fun _ => False) rfl rfl ?aP (fun _ hk => hk.elim) ?aF ?aO ?aB ?aS ?aL ?_; (case aP => exact k35_mkM _ _ _ (⟨a1_0, a1_1, a1_2⟩ : S35)); (case aB => exact (bl_4 HB GE291 GE292 GE293 GE298)); (case aF => exact (fun k_ hk => ⟨Kd.freshB (g := gb292) (o := .cells #[.string a1_0, .string a1_1, .int .i64 a1_2] 35 (0, 0)) (bk_ BK292) k_ hk, Kd.freshB (g := gb298) (o := .cells #[.string ((rd_T35 l0_0 x12_1).f0), .string ((rd_T35 l0_0 x12_1).f1), .int .i64 ((rd_T35 l0_0 x12_1).f2)] 35 (0, 0)) (bk_ BK298) k_ hk⟩)); (case aO => exact (by (with_reducible repeat (first | apply Kd.R_alloc | apply Kd.R_drewN | apply Kd.R_drew)); exact HO_5.out)); (case aS => exact (below_size (bl_4 HB GE291 GE292 GE293 GE298))); (case aL => have := LMc27.out; omega); intro v300 w43 ho hb hg hat; rw [← Ny299.out] at ho; replace BK291 := Aside0.mk (blk_grown (g := gb291) (o := .cells #[.slice (some ad297) l0_0.length c0_0, .bool a0_1, .int .i64 a0_2] 24 (0, 0)) (bk_ BK291) hg (Kd.R_ne HO_5.out BK291.out (by decide))); replace BK292 := Aside0.mk (blk_grown (g := gb292) (o := .cells #[.string a1_0, .string a1_1, .int .i64 a1_2] 35 (0, 0)) (bk_ BK292) hg (Kd.R_away HO_5.out (fun _ hk => hk.1))); replace BK293 := Aside0.mk (blk_grown (g := gb293) (o := .cells #[.slice none 0 0, .bool false, .int .i64 0] 24 (0, 0)) (bk_ BK293) hg (Kd.R_ne HO_5.out BK293.out (by decide))); replace BK298 := Aside0.mk (blk_grown (g := gb298) (o := .cells #[.string ((rd_T35 l0_0 x12_1).f0), .string ((rd_T35 l0_0 x12_1).f1), .int .i64 ((rd_T35 l0_0 x12_1).f2)] 35 (0, 0)) (bk_ BK298) hg (Kd.R_away HO_5.out (fun _ hk => hk.2))); replace HB := Aside0.mk (hb); have HO301 := Aside0.mk (ho); clear HO_5; clear ho hb hg hat; have hnb44 := NB298_291.out; have hnc44 := NB291_298.out; have hnb45 := NB298_293.out; have hnc45 := NB293_298.out; obtain ⟨hcz46_0, hcz46_1, hcz46_2, hfz46_0, hfz46_1, hfz46_2⟩ := c3_ BK298; obtain ⟨hcz47_0, hcz47_1, hcz47_2, hfz47_0, hfz47_1, hfz47_2⟩ := c3_ BK292) | ((with_reducible refine gate_builtin (b := .append) (xs := #[.tmp 34, .tmp 36]) rfl ?_); at_builtin; refine Kd.R_append k35 (w0 := w) w.heap.size rfl (.tmp 34) (.tmp 36) 22 35 (.agg #[(.string ⟨#[]⟩), (.string ⟨#[]⟩), (.int .i64 0)]) 40 rfl Try.underlying22 info35 rfl (by decide) (by omega) v300 y299 (⟨((rd_T35 l0_0 x12_1).f0), ((rd_T35 l0_0 x12_1).f1), ((rd_T35 l0_0 x12_1).f2)⟩ : S35) [.string ((rd_T35 l0_0 x12_1).f0), .string ((rd_T35 l0_0 x12_1).f1), .int .i64 ((rd_T35 l0_0 x12_1).f2)] (fun k_ => k_ ≠ gb292 ∧ k_ ≠ gb298) (fun _ => False) rfl rfl ?aP (fun _ hk => hk.elim) ?aF ?aO ?aB ?aS ?aL ?_; (case aP => exact k35_mkM _ _ _ (⟨((rd_T35 l0_0 x12_1).f0), ((rd_T35 l0_0 x12_1).f1), ((rd_T35 l0_0 x12_1).f2)⟩ : S35)); (case aB => exact (bl_4 HB GE291 GE292 GE293 GE298)); (case aF => exact (fun k_ hk => ⟨Kd.freshB (g := gb292) (o := .cells #[.string a1_0, .string a1_1, .int .i64 a1_2] 35 (0, 0)) (bk_ BK292) k_ hk, Kd.freshB (g := gb298) (o := .cells #[.string ((rd_T35 l0_0 x12_1).f0), .string ((rd_T35 l0_0 x12_1).f1), .int .i64 ((rd_T35 l0_0 x12_1).f2)] 35 (0, 0)) (bk_ BK298) k_ hk⟩)); (case aO => exact (by (with_reducible repeat (first | apply Kd.R_alloc | apply Kd.R_drewN | apply Kd.R_drew)); exact HO301.out)); (case aS => exact (below_size (bl_4 HB GE291 GE292 GE293 GE298))); (case aL => have := LMc38.out; omega); intro v303 w48 ho hb hg hat; rw [← Ny302.out] at ho; replace BK291 := Aside0.mk (blk_grown (g := gb291) (o := .cells #[.slice (some ad297) l0_0.length c0_0, .bool a0_1, .int .i64 a0_2] 24 (0, 0)) (bk_ BK291) hg (Kd.R_ne HO301.out BK291.out (by decide))); replace BK292 := Aside0.mk (blk_grown (g := gb292) (o := .cells #[.string a1_0, .string a1_1, .int .i64 a1_2] 35 (0, 0)) (bk_ BK292) hg (Kd.R_away HO301.out (fun _ hk => hk.1))); replace BK293 := Aside0.mk (blk_grown (g := gb293) (o := .cells #[.slice none 0 0, .bool false, .int .i64 0] 24 (0, 0)) (bk_ BK293) hg (Kd.R_ne HO301.out BK293.out (by decide))); replace BK298 := Aside0.mk (blk_grown (g := gb298) (o := .cells #[.string ((rd_T35 l0_0 x12_1).f0), .string ((rd_T35 l0_0 x12_1).f1), .int .i64 ((rd_T35 l0_0 x12_1).f2)] 35 (0, 0)) (bk_ BK298) hg (Kd.R_away HO301.out (fun _ hk => hk.2))); replace HB := Aside0.mk (hb); have HO304 := Aside0.mk (ho); clear HO301; clear ho hb hg hat))
            go_roundg kj11
            case measure => have := HK1.out; have := HJ11.out; omega
            case rel => exact ⟨(y302), (true), (wrap64 (x12_1 + 1)), (by first | rfl | (simp; done) | (simp [*]; done)), (by first | rfl | (simp; done) | (simp [*]; done)), H', ⟨by have := HK1.out; have := HJ11.out; omega⟩, ⟨by (with_reducible repeat (first | apply Kd.R_alloc | apply Kd.R_drewN | apply Kd.R_drew)); exact Kd.R_mono HO304.out (fun _ hk => hk.1)⟩, ⟨bk_ BK291⟩, ⟨bk_ BK292⟩, ⟨bk_ BK293⟩, ⟨bl_4 HB GE291 GE292 GE293 GE298⟩⟩
           ·rw [if_neg c38] at H
            exact absurd H (by simp)
         ·rw [if_neg c27] at H
          exact absurd H (by simp)
        ·replace c26 := Bool.eq_false_iff.mpr c26
         subst c26
         have H1 : (if ((rd_T35 l0_0 x12_1).f0).toList = a1_0.toList then (gafferref02_with.l0 kj11 x5_1 x6_1 l0_0 (l0_0.length : Int) (wrap64 (x12_1 + 1)) l0_0 a0_1 a0_2 a1_0 a1_1 a1_2) else (if x5_1.length < 3518437208883 then (gafferref02_with.l0 kj11 (x5_1 ++ [(⟨((rd_T35 l0_0 x12_1).f0), ((rd_T35 l0_0 x12_1).f1), ((rd_T35 l0_0 x12_1).f2)⟩ : S35)]) x6_1 l0_0 (l0_0.length : Int) (wrap64 (x12_1 + 1)) l0_0 a0_1 a0_2 a1_0 a1_1 a1_2) else (none))) = some (r1, r2, r3) := by rw [if_neg (show ¬ (false = true) by decide)] at H; exact H
         clear H
         have H := H1
         clear H1
         by_cases c49 : ((rd_T35 l0_0 x12_1).f0).toList = a1_0.toList
         ·rw [if_pos c49] at H
          have c49b0 : (((rd_T35 l0_0 x12_1).f0).toList == a1_0.toList) = true := beq_iff_eq.mpr c49
          have c49b1 : (((rd_T35 l0_0 x12_1).f0).toList != a1_0.toList) = false := bne_eq_false_iff_eq.mpr c49
          clear c49
          have H' := Aside0.mk H
          clear H
          have hnb50 := NB298_291.out
          have hnc50 := NB291_298.out
          have hnb51 := NB298_292.out
          have hnc51 := NB292_298.out
          have hnb52 := NB298_293.out
          have hnc52 := NB293_298.out
          obtain ⟨hcz53_0, hcz53_1, hcz53_2, hfz53_0, hfz53_1, hfz53_2⟩ := c3_ BK298
          have hnb54 := NB292_291.out
          have hnc54 := NB291_292.out
          have hnb55 := NB292_293.out
          have hnc55 := NB293_292.out
          obtain ⟨hcz56_0, hcz56_1, hcz56_2, hfz56_0, hfz56_1, hfz56_2⟩ := c3_ BK292
          go_wp2
          go_roundg kj11
          case measure => have := HK1.out; have := HJ11.out; omega
          case rel => exact ⟨(x5_1), (x6_1), (wrap64 (x12_1 + 1)), (by first | rfl | (simp; done) | (simp [*]; done)), (by first | rfl | (simp; done) | (simp [*]; done)), H', ⟨by have := HK1.out; have := HJ11.out; omega⟩, ⟨by (with_reducible repeat (first | apply Kd.R_alloc | apply Kd.R_drewN | apply Kd.R_drew)); exact Kd.R_mono HO_5.out (fun _ hk => hk.1)⟩, ⟨bk_ BK291⟩, ⟨bk_ BK292⟩, ⟨bk_ BK293⟩, ⟨bl_4 HB GE291 GE292 GE293 GE298⟩⟩
         ·rw [if_neg c49] at H
          have c49b0 : (((rd_T35 l0_0 x12_1).f0).toList == a1_0.toList) = false := beq_eq_false_iff_ne.mpr c49
          have c49b1 : (((rd_T35 l0_0 x12_1).f0).toList != a1_0.toList) = true := bne_iff_ne.mpr c49
          by_cases c57 : x5_1.length < 3518437208883
          ·rw [if_pos c57] at H
           have LMc57 := Aside0.mk c57
           clear c57
           obtain ⟨y305, hy305⟩ : ∃ y_ : List (S35), y_ = (x5_1 ++ [(⟨((rd_T35 l0_0 x12_1).f0), ((rd_T35 l0_0 x12_1).f1), ((rd_T35 l0_0 x12_1).f2)⟩ : S35)]) := ⟨_, rfl⟩
           replace H : (gafferref02_with.l0 kj11 y305 x6_1 l0_0 (l0_0.length : Int) (wrap64 (x12_1 + 1)) l0_0 a0_1 a0_2 a1_0 a1_1 a1_2) = some (r1, r2, r3) := by first | (rw [hy305]; with_reducible exact H) | (have H2_ := (Option.bind_some _ _).symm.trans H; rw [hy305]; with_reducible exact H2_) | (have H2_ := (Option.bind_some _ _).symm.trans H; with_reducible exact H2_) | with_reducible exact H | (rw [hy305]; exact H) | exact H
           have Ny305 := Aside0.mk hy305
           clear hy305
           have H' := Aside0.mk H
           clear H
           have hnb58 := NB298_291.out
           have hnc58 := NB291_298.out
           have hnb59 := NB298_292.out
           have hnc59 := NB292_298.out
           have hnb60 := NB298_293.out
           have hnc60 := NB293_298.out
           obtain ⟨hcz61_0, hcz61_1, hcz61_2, hfz61_0, hfz61_1, hfz61_2⟩ := c3_ BK298
           have hnb62 := NB292_291.out
           have hnc62 := NB291_292.out
           have hnb63 := NB292_293.out
           have hnc63 := NB293_292.out
           obtain ⟨hcz64_0, hcz64_1, hcz64_2, hfz64_0, hfz64_1, hfz64_2⟩ := c3_ BK292
           go_wp2_with (first | ((with_reducible refine gate_builtin (b := .append) (xs := #[.tmp 34, .tmp 36]) rfl ?_); at_builtin; refine Kd.R_append k35 (w0 := w) w.heap.size rfl (.tmp 34) (.tmp 36) 22 35 (.agg #[(.string ⟨#[]⟩), (.string ⟨#[]⟩), (.int .i64 0)]) 40 rfl Try.underlying22 info35 rfl (by decide) (by omega) u5 x5_1 (⟨((rd_T35 l0_0 x12_1).f0), ((rd_T35 l0_0 x12_1).f1), ((rd_T35 l0_0 x12_1).f2)⟩ : S35) [.string ((rd_T35 l0_0 x12_1).f0), .string ((rd_T35 l0_0 x12_1).f1), .int .i64 ((rd_T35 l0_0 x12_1).f2)] (fun k_ => k_ ≠ gb292 ∧ k_ ≠ gb298) (fun _ => False) rfl rfl ?aP (fun _ hk => hk.elim) ?aF ?aO ?aB ?aS ?aL ?_; (case aP => exact k35_mkM _ _ _ (⟨((rd_T35 l0_0 x12_1).f0), ((rd_T35 l0_0 x12_1).f1), ((rd_T35 l0_0 x12_1).f2)⟩ : S35)); (case aB => exact (bl_4 HB GE291 GE292 GE293 GE298)); (case aF => exact (fun k_ hk => ⟨Kd.freshB (g := gb292) (o := .cells #[.string a1_0, .string a1_1, .int .i64 a1_2] 35 (0, 0)) (bk_ BK292) k_ hk, Kd.freshB (g := gb298) (o := .cells #[.string ((rd_T35 l0_0 x12_1).f0), .string ((rd_T35 l0_0 x12_1).f1), .int .i64 ((rd_T35 l0_0 x12_1).f2)] 35 (0, 0)) (bk_ BK298) k_ hk⟩)); (case aO => exact (by (with_reducible repeat (first | apply Kd.R_alloc | apply Kd.R_drewN | apply Kd.R_drew)); exact HO_5.out)); (case aS => exact (below_size (bl_4 HB GE291 GE292 GE293 GE298))); (case aL => have := LMc57.out; omega); intro v306 w65 ho hb hg hat; rw [← Ny305.out] at ho; replace BK291 := Aside0.mk (blk_grown (g := gb291) (o := .cells #[.slice (some ad297) l0_0.length c0_0, .bool a0_1, .int .i64 a0_2] 24 (0, 0)) (bk_ BK291) hg (Kd.R_ne HO_5.out BK291.out (by decide))); replace BK292 := Aside0.mk (blk_grown (g := gb292) (o := .cells #[.string a1_0, .string a1_1, .int .i64 a1_2] 35 (0, 0)) (bk_ BK292) hg (Kd.R_away HO_5.out (fun _ hk => hk.1))); replace BK293 := Aside0.mk (blk_grown (g := gb293) (o := .cells #[.slice none 0 0, .bool false, .int .i64 0] 24 (0, 0)) (bk_ BK293) hg (Kd.R_ne HO_5.out BK293.out (by decide))); replace BK298 := Aside0.mk (blk_grown (g := gb298) (o := .cells #[.string ((rd_T35 l0_0 x12_1).f0), .string ((rd_T35 l0_0 x12_1).f1), .int .i64 ((rd_T35 l0_0 x12_1).f2)] 35 (0, 0)) (bk_ BK298) hg (Kd.R_away HO_5.out (fun _ hk => hk.2))); replace HB := Aside0.mk (hb); have HO307 := Aside0.mk (ho); clear HO_5; clear ho hb hg hat))
           go_roundg kj11
           case measure => have := HK1.out; have := HJ11.out; omega
           case rel => exact ⟨(y305), (x6_1), (wrap64 (x12_1 + 1)), (by first | rfl | (simp; done) | (simp [*]; done)), (by first | rfl | (simp; done) | (simp [*]; done)), H', ⟨by have := HK1.out; have := HJ11.out; omega⟩, ⟨by (with_reducible repeat (first | apply Kd.R_alloc | apply Kd.R_drewN | apply Kd.R_drew)); exact Kd.R_mono HO307.out (fun _ hk => hk.1)⟩, ⟨bk_ BK291⟩, ⟨bk_ BK292⟩, ⟨bk_ BK293⟩, ⟨bl_4 HB GE291 GE292 GE293 GE298⟩⟩
          ·rw [if_neg c57] at H
           exact absurd H (by simp)
     ·rw [if_neg c11] at H
      exact absurd H (by simp)
    ·rw [if_neg c10] at H
     exact absurd H (by simp)
   ·rw [if_neg c9] at H
    have c9b0 : decide (x12_1 < (l0_0.length : Int)) = false := decide_eq_false c9
    clear c9
    by_cases c66 : x6_1 = true
    ·subst c66
     have H1 : (some (x5_1, a0_1, a0_2)) = some (r1, r2, r3) := by rw [if_pos rfl] at H; exact H
     clear H
     have H := H1
     clear H1
     simp only [Option.some.injEq, Prod.mk.injEq] at H
     obtain ⟨rfl, rfl, rfl⟩ := H
     obtain ⟨Ao67, co67, eo67⟩ := Kd.R_slice HO_5.out
     subst eo67
     have hnb68 := NB291_292.out
     have hnc68 := NB292_291.out
     have hnb69 := NB291_293.out
     have hnc69 := NB293_291.out
     obtain ⟨hcz70_0, hcz70_1, hcz70_2, hfz70_0, hfz70_1, hfz70_2⟩ := c3_ BK291
     have hnb71 := NB293_292.out
     have hnc71 := NB292_293.out
     obtain ⟨hcz72_0, hcz72_1, hcz72_2, hfz72_0, hfz72_1, hfz72_2⟩ := c3_ BK293
     go_wp2
     refine bodyPost_ret (results_cell_row rfl _ _ gb293 24 #[.slice Ao67 x5_1.length co67, .bool a0_1, .int .i64 a0_2] (0, 0) _ rfl (bp_1 BK293 NB293_291) Try.underlying24 rfl (by kernel_rfl)) rfl ?_
     exact ⟨_, by first | rfl | (simp; done) | (simp [*]; done), by (with_reducible repeat (first | apply Kd.R_alloc | apply Kd.R_drewN | apply Kd.R_drew)); exact Kd.R_mono (Kd.R_far (p := ⟨gb293, 2, none⟩) (Kd.R_far (p := ⟨gb293, 1, none⟩) (Kd.R_far (p := ⟨gb293, 0, none⟩) (Kd.R_far (p := ⟨gb291, 0, none⟩) (Kd.R_types (Kd.R_types HO_5.out BK291.out (by decide)) BK293.out (by decide)) (fun _ hk => hk.1.2) (.slice Ao67 x5_1.length co67)) (fun _ hk => hk.2) (.slice Ao67 x5_1.length co67)) (fun _ hk => hk.2) (.bool a0_1)) (fun _ hk => hk.2) (.int .i64 a0_2)) (fun _ hk => trivial), bl_3 HB GE291 GE292 GE293⟩
    ·replace c66 := Bool.eq_false_iff.mpr c66
     subst c66
     have H1 : (if x5_1.length < 3518437208883 then (some ((x5_1 ++ [(⟨a1_0, a1_1, a1_2⟩ : S35)]), a0_1, a0_2)) else (none)) = some (r1, r2, r3) := by rw [if_neg (show ¬ (false = true) by decide)] at H; exact H
     clear H
     have H := H1
     clear H1
     by_cases c73 : x5_1.length < 3518437208883
     ·rw [if_pos c73] at H
      have LMc73 := Aside0.mk c73
      clear c73
      obtain ⟨y294, hy294⟩ : ∃ y_ : List (S35), y_ = (x5_1 ++ [(⟨a1_0, a1_1, a1_2⟩ : S35)]) := ⟨_, rfl⟩
      replace H : (some (y294, a0_1, a0_2)) = some (r1, r2, r3) := by first | (rw [hy294]; with_reducible exact H) | (have H2_ := (Option.bind_some _ _).symm.trans H; rw [hy294]; with_reducible exact H2_) | (have H2_ := (Option.bind_some _ _).symm.trans H; with_reducible exact H2_) | with_reducible exact H | (rw [hy294]; exact H) | exact H
      have Ny294 := Aside0.mk hy294
      clear hy294
      simp only [Option.some.injEq, Prod.mk.injEq] at H
      obtain ⟨rfl, rfl, rfl⟩ := H
      have hnb74 := NB292_291.out
      have hnc74 := NB291_292.out
      have hnb75 := NB292_293.out
      have hnc75 := NB293_292.out
      obtain ⟨hcz76_0, hcz76_1, hcz76_2, hfz76_0, hfz76_1, hfz76_2⟩ := c3_ BK292
      go_wp2_with (first | ((with_reducible refine gate_builtin (b := .append) (xs := #[.tmp 41, .tmp 43]) rfl ?_); at_builtin; refine Kd.R_append k35 (w0 := w) w.heap.size rfl (.tmp 41) (.tmp 43) 22 35 (.agg #[(.string ⟨#[]⟩), (.string ⟨#[]⟩), (.int .i64 0)]) 40 rfl Try.underlying22 info35 rfl (by decide) (by omega) u5 x5_1 (⟨a1_0, a1_1, a1_2⟩ : S35) [.string a1_0, .string a1_1, .int .i64 a1_2] (fun k_ => k_ ≠ gb292) (fun _ => False) rfl rfl ?aP (fun _ hk => hk.elim) ?aF ?aO ?aB ?aS ?aL ?_; (case aP => exact k35_mkM _ _ _ (⟨a1_0, a1_1, a1_2⟩ : S35)); (case aB => exact (bl_3 HB GE291 GE292 GE293)); (case aF => exact (fun k_ hk => Kd.freshB (g := gb292) (o := .cells #[.string a1_0, .string a1_1, .int .i64 a1_2] 35 (0, 0)) (bk_ BK292) k_ hk)); (case aO => exact (by (with_reducible repeat (first | apply Kd.R_alloc | apply Kd.R_drewN | apply Kd.R_drew)); exact HO_5.out)); (case aS => exact (below_size (bl_3 HB GE291 GE292 GE293))); (case aL => have := LMc73.out; omega); intro v295 w77 ho hb hg hat; rw [← Ny294.out] at ho; replace BK291 := Aside0.mk (blk_grown (g := gb291) (o := .cells #[.slice A0_0 l0_0.length c0_0, .bool a0_1, .int .i64 a0_2] 24 (0, 0)) (bk_ BK291) hg (Kd.R_ne HO_5.out BK291.out (by decide))); replace BK292 := Aside0.mk (blk_grown (g := gb292) (o := .cells #[.string a1_0, .string a1_1, .int .i64 a1_2] 35 (0, 0)) (bk_ BK292) hg (Kd.R_away HO_5.out (fun _ hk => hk))); replace BK293 := Aside0.mk (blk_grown (g := gb293) (o := .cells #[.slice none 0 0, .bool false, .int .i64 0] 24 (0, 0)) (bk_ BK293) hg (Kd.R_ne HO_5.out BK293.out (by decide))); replace HB := Aside0.mk (hb); have HO296 := Aside0.mk (ho); clear HO_5; clear ho hb hg hat; obtain ⟨Ao78, co78, eo78⟩ := Kd.R_slice HO296.out; subst eo78; have hnb79 := NB291_293.out; have hnc79 := NB293_291.out; obtain ⟨hcz80_0, hcz80_1, hcz80_2, hfz80_0, hfz80_1, hfz80_2⟩ := c3_ BK291; obtain ⟨hcz81_0, hcz81_1, hcz81_2, hfz81_0, hfz81_1, hfz81_2⟩ := c3_ BK293))
      refine bodyPost_ret (results_cell_row rfl _ _ gb293 24 #[.slice Ao78 y294.length co78, .bool a0_1, .int .i64 a0_2] (0, 0) _ rfl (bp_1 BK293 NB293_291) Try.underlying24 rfl (by kernel_rfl)) rfl ?_
      exact ⟨_, by first | rfl | (simp; done) | (simp [*]; done), by (with_reducible repeat (first | apply Kd.R_alloc | apply Kd.R_drewN | apply Kd.R_drew)); exact Kd.R_mono (Kd.R_far (p := ⟨gb293, 2, none⟩) (Kd.R_far (p := ⟨gb293, 1, none⟩) (Kd.R_far (p := ⟨gb293, 0, none⟩) (Kd.R_far (p := ⟨gb291, 0, none⟩) (Kd.R_types (Kd.R_types HO296.out BK291.out (by decide)) BK293.out (by decide)) (fun _ hk => hk.1.2) (.slice Ao78 y294.length co78)) (fun _ hk => hk.2) (.slice Ao78 y294.length co78)) (fun _ hk => hk.2) (.bool a0_1)) (fun _ hk => hk.2) (.int .i64 a0_2)) (fun _ hk => trivial), bl_3 HB GE291 GE292 GE293⟩
     ·rw [if_neg c73] at H
      exact absurd H (by simp)

/-! ### gafferref02_without: function 42 -/
def gafferref02_without.l0 : Nat → ByteArray → List (S35) → List (S35) → Int → Int → List (S35) → Bool → Int → Option ((List (S35)) × Bool × Int)
 | 0, _, _, _, _, _, _, _, _ => none
 | k + 1, x1, x5, x9, x10, x11, x309000, x309001, x309002 => if x11 < x10 then (if 0 ≤ x11 then (if x11 < (x9.length : Int) then (if ((rd_T35 x9 x11).f0).toList = x1.toList then (gafferref02_without.l0 k x1 x5 x9 x10 (wrap64 (x11 + 1)) x309000 x309001 x309002) else (if x5.length < 3518437208883 then (gafferref02_without.l0 k x1 (x5 ++ [(⟨(rd_T35 x9 x11).f0, (rd_T35 x9 x11).f1, (rd_T35 x9 x11).f2⟩ : S35)]) x9 x10 (wrap64 (x11 + 1)) x309000 x309001 x309002) else (none))) else (none)) else (none)) else (some (x5, x309001, x309002))
def gafferref02_without.f (k : Nat) (l0_0 : List (S35)) (a0_1 : Bool) (a0_2 : Int) (a1 : ByteArray) : Option ((List (S35)) × Bool × Int) := gafferref02_without.l0 k a1 ([] : List (S35)) l0_0 (l0_0.length : Int) 0 l0_0 a0_1 a0_2
theorem gafferref02_without.mono_l : ∀ k, (∀ y0 y1 y2 y3 y4 y5 y6 y7, LeO (gafferref02_without.l0 k y0 y1 y2 y3 y4 y5 y6 y7) (gafferref02_without.l0 (k + 1) y0 y1 y2 y3 y4 y5 y6 y7))
 | 0 => fun _ _ _ _ _ _ _ _ r h => by simp [gafferref02_without.l0] at h
 | k + 1 => by
  have ih0 := gafferref02_without.mono_l k
  ·intro y0 y1 y2 y3 y4 y5 y6 y7
   unfold gafferref02_without.l0
   repeat' first
   | (with_reducible exact ih0 _ _ _ _ _ _ _ _)
   | (with_reducible exact LeO.refl _)
   | (with_reducible exact LeO.none _)
   | (with_reducible refine LeO.ite ?_ ?_)
   | (with_reducible refine LeO.bind ?_ (fun _ => ?_))
   | exact ih0 _ _ _ _ _ _ _ _
   | exact LeO.none _
   | refine LeO.ite ?_ ?_
   | refine LeO.bind ?_ (fun _ => ?_)
theorem gafferref02_without.mono : ∀ a0 a1 a2 a3 k, LeO (gafferref02_without.f k a0 a1 a2 a3) (gafferref02_without.f (k + 1) a0 a1 a2 a3) := by
 intro a0 a1 a2 a3 k
 have ih0 := gafferref02_without.mono_l k
 unfold gafferref02_without.f
 repeat' first
   | (with_reducible exact ih0 _ _ _ _ _ _ _ _)
   | (with_reducible exact LeO.refl _)
   | (with_reducible exact LeO.none _)
   | (with_reducible refine LeO.ite ?_ ?_)
   | (with_reducible refine LeO.bind ?_ (fun _ => ?_))
   | exact ih0 _ _ _ _ _ _ _ _
   | exact LeO.none _
   | refine LeO.ite ?_ ?_
   | refine LeO.bind ?_ (fun _ => ?_)
set_option maxHeartbeats 80000000 in
set_option maxRecDepth 100000 in
theorem gafferref02_without.calls (k : Nat) (A0_0 : Option Addr) (c0_0 : Nat) (l0_0 : List (S35)) (a0_1 : Bool) (a0_2 : Int) (a1 : ByteArray) (r1 : List (S35)) (r2 : Bool) (r3 : Int) (w : World) (hr0_0 : Kd.C k35 w A0_0 l0_0.length l0_0) (hc0_0 : l0_0.length ≤ c0_0) (h : gafferref02_without.f k l0_0 a0_1 a0_2 a1 = some (r1, r2, r3)) :
  Calls Try.prog 42 #[.agg #[.slice A0_0 l0_0.length c0_0, .bool a0_1, .int .i64 a0_2], .string a1] w fun e w' => ∃ v0_ : Value, e = .returned (.agg #[v0_, .bool r2, .int .i64 r3]) ∧ Kd.R k35 35 w' w.heap.size (fun _ => True) v0_ r1 ∧ Below w.heap.size w w' := by
 have hu24 := Try.underlying24
 have hu35 := Try.underlying35
 have HR0_0 := Aside0.mk hr0_0
 have HC0_0 := Aside0.mk hc0_0
 clear hr0_0 hc0_0
 have HB := Aside0.mk (Below.refl w.heap.size w)
 have H : (gafferref02_without.l0 k a1 ([] : List (S35)) l0_0 (l0_0.length : Int) 0 l0_0 a0_1 a0_2) = some (r1, r2, r3) := h
 clear h
 have H' := Aside0.mk H
 clear H
 go_enter Try.func42, Try.ntmps42
 go_wp2_with (first | ((with_reducible refine gate_dst (N := 2) rfl ?_); refine box_event ?hg (N := 2) ?hd (cs := #[.slice A0_0 l0_0.length c0_0, .bool a0_1, .int .i64 a0_2]) (t := 24) ?hr ?_; (case hd => rfl); (case hg => rfl); (case hr => first | (go_simp; done) | (go_simp; rfl)); intro gb308 hg w3 hbox hb; have BK308 := Aside0.mk (hbox); have GW308 := Aside0.mk (bs_0 hg HB); have GE308 := Aside0.mk (bs_0 hg HB); replace HB := Aside0.mk (below_step (bl_ HB) hb); clear hb hbox hg) | ((with_reducible refine gate_dst (N := 4) rfl ?_); refine box_event ?hg (N := 4) ?hd (cs := #[.slice none 0 0, .bool false, .int .i64 0]) (t := 24) ?hr ?_; (case hd => rfl); (case hg => rfl); (case hr => first | (go_simp; done) | (go_simp; rfl)); intro gb309 hg w4 hbox hb; have BK309 := Aside0.mk (hbox); have GW309 := Aside0.mk (bs_1 hg HB GE308); have GE309 := Aside0.mk (bs_1 hg HB GE308); replace HB := Aside0.mk (below_step (bl_1 HB GE308) hb); have NB308_309 := Aside0.mk (nb_ hg BK308); have NB309_308 := Aside0.mk (nc_ hg BK308); replace BK308 := Aside0.mk (bb_ BK308 hb); clear hb hbox hg; have hnb5 := NB308_309.out; have hnc5 := NB309_308.out; obtain ⟨hcz6_0, hcz6_1, hcz6_2, hfz6_0, hfz6_1, hfz6_2⟩ := c3_ BK308))
 go_loopg [5, 11] k (fun kq v5 v11 w' => ∃ (x5_1 : List (S35)) (x11_1 : Int), v11 = .int .i64 x11_1 ∧ Aside0 (gafferref02_without.l0 kq a1 x5_1 l0_0 (l0_0.length : Int) x11_1 l0_0 a0_1 a0_2 = some (r1, r2, r3)) ∧ Aside0 (kq ≤ k) ∧ Aside0 (Kd.R k35 35 w' w.heap.size (fun _ => True) v5 x5_1) ∧ Aside0 (w'.heap[gb308]? = some (.cells #[(.slice A0_0 l0_0.length c0_0), .bool a0_1, .int .i64 a0_2] 24 (0, 0))) ∧ Aside0 (w'.heap[gb309]? = some (.cells #[(.slice none 0 0), .bool false, .int .i64 0] 24 (0, 0))) ∧ Aside0 (Below w.heap.size w w'))
 case atStart => exact ⟨(([] : List (S35))), (0), (by first | rfl | (simp; done) | (simp [*]; done)), H', ⟨Nat.le_refl _⟩, ⟨by first | exact Kd.R_nil _ _ _ _ _ | exact Kd.N_nil _ _ _ _ _ | exact Kd.V_nil _ _ _ _ _ | exact Kd.Q_nil _ _ _ _ _ | exact Kd.S_nil _ _ _ _ _⟩, ⟨bk_ BK308⟩, ⟨bk_ BK309⟩, ⟨bl_2 HB GE308 GE309⟩⟩
 case round =>
  clear H'
  try clear p2
  try clear c4
  try clear c5
  try clear hcz6_0
  try clear hcz6_1
  try clear hcz6_2
  try clear hfz6_0
  try clear hfz6_1
  try clear hfz6_2
  obtain ⟨x5_1, x11_1, rfl, HA, HK1, HO_5, BK308, BK309, HB⟩ := hrel
  cases gk with
  | zero => exact absurd HA.out (by simp [gafferref02_without.l0])
  | succ k1 =>
   have H := HA.out
   clear HA
   simp only [gafferref02_without.l0] at H
   by_cases c7 : x11_1 < (l0_0.length : Int)
   ·rw [if_pos c7] at H
    have c7b0 : decide (x11_1 < (l0_0.length : Int)) = true := decide_eq_true c7
    clear c7
    by_cases c8 : 0 ≤ x11_1
    ·rw [if_pos c8] at H
     have c8b0 : decide (0 ≤ x11_1) = true := decide_eq_true c8
     clear c8
     by_cases c9 : x11_1 < (l0_0.length : Int)
     ·rw [if_pos c9] at H
      have c9b0 : decide (x11_1 < (l0_0.length : Int)) = true := decide_eq_true c9
      clear c9
      by_cases c10 : ((rd_T35 l0_0 x11_1).f0).toList = a1.toList
      ·rw [if_pos c10] at H
       have c10b0 : (((rd_T35 l0_0 x11_1).f0).toList == a1.toList) = true := beq_iff_eq.mpr c10
       have c10b1 : (((rd_T35 l0_0 x11_1).f0).toList != a1.toList) = false := bne_eq_false_iff_eq.mpr c10
       clear c10
       have H' := Aside0.mk H
       clear H
       have p310 : 0 ≤ (x11_1 : Int) := of_decide_eq_true (by first | (with_reducible assumption) | assumption)
       have q310 : x11_1 < (l0_0.length : Int) := of_decide_eq_true (by first | (with_reducible assumption) | assumption)
       obtain ⟨ad310, e310, hx310_0, hx310_1, hx310_2⟩ := at_T35 HR0_0.out x11_1 p310 q310
       cases e310
       replace hx310_0 := (HB.out.cell (World.block_lt_of_cell? w _ hx310_0)).trans hx310_0
       replace hx310_1 := (HB.out.cell (World.block_lt_of_cell? w _ hx310_1)).trans hx310_1
       replace hx310_2 := (HB.out.cell (World.block_lt_of_cell? w _ hx310_2)).trans hx310_2
       replace p310 := eq_true p310
       replace q310 := eq_true q310
       go_wp2_with (first | ((with_reducible refine gate_dst (N := 7) rfl ?_); refine box_event ?hg (N := 7) ?hd (cs := #[.string (⟨#[]⟩ : ByteArray), .string (⟨#[]⟩ : ByteArray), .int .i64 0]) (t := 35) ?hr ?_; (case hd => rfl); (case hg => rfl); (case hr => first | (go_simp; done) | (go_simp; rfl)); intro gb311 hg w11 hbox hb; replace HO_5 := Aside0.mk (Kd.R_below (Kd.R_elderB (by (with_reducible repeat (first | apply Kd.R_alloc | apply Kd.R_drewN | apply Kd.R_drew)); exact HO_5.out) gb311 (Nat.le_of_eq hg.symm)) hb); have BK311 := Aside0.mk (hbox); have GW311 := Aside0.mk (bs_2 hg HB GE308 GE309); have GE311 := Aside0.mk (bs_2 hg HB GE308 GE309); replace HB := Aside0.mk (below_step (bl_2 HB GE308 GE309) hb); have NB308_311 := Aside0.mk (nb_ hg BK308); have NB311_308 := Aside0.mk (nc_ hg BK308); replace BK308 := Aside0.mk (bb_ BK308 hb); have NB309_311 := Aside0.mk (nb_ hg BK309); have NB311_309 := Aside0.mk (nc_ hg BK309); replace BK309 := Aside0.mk (bb_ BK309 hb); clear hb hbox hg; have hnb12 := NB311_308.out; have hnc12 := NB308_311.out; have hnb13 := NB311_309.out; have hnc13 := NB309_311.out; obtain ⟨hcz14_0, hcz14_1, hcz14_2, hfz14_0, hfz14_1, hfz14_2⟩ := c3_ BK311))
       go_roundg k1
       case measure => have := HK1.out; omega
       case rel => exact ⟨(x5_1), (wrap64 (x11_1 + 1)), (by first | rfl | (simp; done) | (simp [*]; done)), H', ⟨by have := HK1.out; omega⟩, ⟨by (with_reducible repeat (first | apply Kd.R_alloc | apply Kd.R_drewN | apply Kd.R_drew)); exact Kd.R_mono (Kd.R_far (p := ⟨gb311, 2, none⟩) (Kd.R_far (p := ⟨gb311, 1, none⟩) (Kd.R_far (p := ⟨gb311, 0, none⟩) (Kd.R_mono HO_5.out (fun k_ hk => (⟨hk, hk.2⟩ : _ ∧ k_ ≠ gb311))) (fun _ hk => hk.2) (.string ((rd_T35 l0_0 x11_1).f0))) (fun _ hk => hk.2) (.string ((rd_T35 l0_0 x11_1).f1))) (fun _ hk => hk.2) (.int .i64 ((rd_T35 l0_0 x11_1).f2))) (fun _ hk => trivial)⟩, ⟨by (with_reducible repeat (first | refine blk_drewN ?_ _ | refine blk_drew ?_ | refine blk_alloc ?_ _)); refine blk_far ?_ NB308_311.out _; (with_reducible repeat (first | refine blk_drewN ?_ _ | refine blk_drew ?_ | refine blk_alloc ?_ _)); refine blk_far ?_ NB308_311.out _; (with_reducible repeat (first | refine blk_drewN ?_ _ | refine blk_drew ?_ | refine blk_alloc ?_ _)); refine blk_far ?_ NB308_311.out _; (with_reducible repeat (first | refine blk_drewN ?_ _ | refine blk_drew ?_ | refine blk_alloc ?_ _)); exact BK308.out⟩, ⟨by (with_reducible repeat (first | refine blk_drewN ?_ _ | refine blk_drew ?_ | refine blk_alloc ?_ _)); refine blk_far ?_ NB309_311.out _; (with_reducible repeat (first | refine blk_drewN ?_ _ | refine blk_drew ?_ | refine blk_alloc ?_ _)); refine blk_far ?_ NB309_311.out _; (with_reducible repeat (first | refine blk_drewN ?_ _ | refine blk_drew ?_ | refine blk_alloc ?_ _)); refine blk_far ?_ NB309_311.out _; (with_reducible repeat (first | refine blk_drewN ?_ _ | refine blk_drew ?_ | refine blk_alloc ?_ _)); exact BK309.out⟩, ⟨bl_3 HB GE308 GE309 GE311⟩⟩
      ·rw [if_neg c10] at H
       have c10b0 : (((rd_T35 l0_0 x11_1).f0).toList == a1.toList) = false := beq_eq_false_iff_ne.mpr c10
       have c10b1 : (((rd_T35 l0_0 x11_1).f0).toList != a1.toList) = true := bne_iff_ne.mpr c10
       by_cases c15 : x5_1.length < 3518437208883
       ·rw [if_pos c15] at H
        have LMc15 := Aside0.mk c15
        clear c15
        obtain ⟨y312, hy312⟩ : ∃ y_ : List (S35), y_ = (x5_1 ++ [(⟨(rd_T35 l0_0 x11_1).f0, (rd_T35 l0_0 x11_1).f1, (rd_T35 l0_0 x11_1).f2⟩ : S35)]) := ⟨_, rfl⟩
        replace H : (gafferref02_without.l0 k1 a1 y312 l0_0 (l0_0.length : Int) (wrap64 (x11_1 + 1)) l0_0 a0_1 a0_2) = some (r1, r2, r3) := by first | (rw [hy312]; with_reducible exact H) | (have H2_ := (Option.bind_some _ _).symm.trans H; rw [hy312]; with_reducible exact H2_) | (have H2_ := (Option.bind_some _ _).symm.trans H; with_reducible exact H2_) | with_reducible exact H | (rw [hy312]; exact H) | exact H
        have Ny312 := Aside0.mk hy312
        clear hy312
        have H' := Aside0.mk H
        clear H
        have p310 : 0 ≤ (x11_1 : Int) := of_decide_eq_true (by first | (with_reducible assumption) | assumption)
        have q310 : x11_1 < (l0_0.length : Int) := of_decide_eq_true (by first | (with_reducible assumption) | assumption)
        obtain ⟨ad310, e310, hx310_0, hx310_1, hx310_2⟩ := at_T35 HR0_0.out x11_1 p310 q310
        cases e310
        replace hx310_0 := (HB.out.cell (World.block_lt_of_cell? w _ hx310_0)).trans hx310_0
        replace hx310_1 := (HB.out.cell (World.block_lt_of_cell? w _ hx310_1)).trans hx310_1
        replace hx310_2 := (HB.out.cell (World.block_lt_of_cell? w _ hx310_2)).trans hx310_2
        replace p310 := eq_true p310
        replace q310 := eq_true q310
        go_wp2_with (first | ((with_reducible refine gate_dst (N := 7) rfl ?_); refine box_event ?hg (N := 7) ?hd (cs := #[.string (⟨#[]⟩ : ByteArray), .string (⟨#[]⟩ : ByteArray), .int .i64 0]) (t := 35) ?hr ?_; (case hd => rfl); (case hg => rfl); (case hr => first | (go_simp; done) | (go_simp; rfl)); intro gb311 hg w16 hbox hb; replace HO_5 := Aside0.mk (Kd.R_below (Kd.R_elderB (by (with_reducible repeat (first | apply Kd.R_alloc | apply Kd.R_drewN | apply Kd.R_drew)); exact HO_5.out) gb311 (Nat.le_of_eq hg.symm)) hb); have BK311 := Aside0.mk (hbox); have GW311 := Aside0.mk (bs_2 hg HB GE308 GE309); have GE311 := Aside0.mk (bs_2 hg HB GE308 GE309); replace HB := Aside0.mk (below_step (bl_2 HB GE308 GE309) hb); have NB308_311 := Aside0.mk (nb_ hg BK308); have NB311_308 := Aside0.mk (nc_ hg BK308); replace BK308 := Aside0.mk (bb_ BK308 hb); have NB309_311 := Aside0.mk (nb_ hg BK309); have NB311_309 := Aside0.mk (nc_ hg BK309); replace BK309 := Aside0.mk (bb_ BK309 hb); clear hb hbox hg; have hnb17 := NB311_308.out; have hnc17 := NB308_311.out; have hnb18 := NB311_309.out; have hnc18 := NB309_311.out; obtain ⟨hcz19_0, hcz19_1, hcz19_2, hfz19_0, hfz19_1, hfz19_2⟩ := c3_ BK311) | ((with_reducible refine gate_builtin (b := .append) (xs := #[.tmp 19, .tmp 21]) rfl ?_); at_builtin; refine Kd.R_append k35 (w0 := w) w.heap.size rfl (.tmp 19) (.tmp 21) 22 35 (.agg #[(.string ⟨#[]⟩), (.string ⟨#[]⟩), (.int .i64 0)]) 40 rfl Try.underlying22 info35 rfl (by decide) (by omega) u5 x5_1 (⟨(rd_T35 l0_0 x11_1).f0, (rd_T35 l0_0 x11_1).f1, (rd_T35 l0_0 x11_1).f2⟩ : S35) [.string ((rd_T35 l0_0 x11_1).f0), .string ((rd_T35 l0_0 x11_1).f1), .int .i64 ((rd_T35 l0_0 x11_1).f2)] (fun k_ => k_ ≠ gb311) (fun _ => False) rfl (by first | (go_simp; done) | (go_simp; rfl)) ?aP (fun _ hk => hk.elim) ?aF ?aO ?aB ?aS ?aL ?_; (case aP => exact k35_mkM _ _ _ (⟨(rd_T35 l0_0 x11_1).f0, (rd_T35 l0_0 x11_1).f1, (rd_T35 l0_0 x11_1).f2⟩ : S35)); (case aB => exact (bl_3 HB GE308 GE309 GE311)); (case aF => exact (fun k_ hk => Kd.freshB (g := gb311) (o := .cells #[.string ((rd_T35 l0_0 x11_1).f0), .string ((rd_T35 l0_0 x11_1).f1), .int .i64 ((rd_T35 l0_0 x11_1).f2)] 35 (0, 0)) (bp_0 BK311) k_ hk)); (case aO => exact (by (with_reducible repeat (first | apply Kd.R_alloc | apply Kd.R_drewN | apply Kd.R_drew)); exact Kd.R_mono (Kd.R_far (p := ⟨gb311, 2, none⟩) (Kd.R_far (p := ⟨gb311, 1, none⟩) (Kd.R_far (p := ⟨gb311, 0, none⟩) (Kd.R_mono HO_5.out (fun k_ hk => (⟨hk, hk.2⟩ : _ ∧ k_ ≠ gb311))) (fun _ hk => hk.2) (.string ((rd_T35 l0_0 x11_1).f0))) (fun _ hk => hk.2) (.string ((rd_T35 l0_0 x11_1).f1))) (fun _ hk => hk.2) (.int .i64 ((rd_T35 l0_0 x11_1).f2))) (fun _ hk => hk.1.2))); (case aS => exact (below_size (bl_3 HB GE308 GE309 GE311))); (case aL => have := LMc15.out; omega); intro v313 w20 ho hb hg hat; rw [← Ny312.out] at ho; replace BK308 := Aside0.mk (blk_grown (g := gb308) (o := .cells #[.slice (some ad310) l0_0.length c0_0, .bool a0_1, .int .i64 a0_2] 24 (0, 0)) (bp_1 BK308 NB308_311) hg (Kd.R_ne HO_5.out BK308.out (by decide))); replace BK309 := Aside0.mk (blk_grown (g := gb309) (o := .cells #[.slice none 0 0, .bool false, .int .i64 0] 24 (0, 0)) (bp_1 BK309 NB309_311) hg (Kd.R_ne HO_5.out BK309.out (by decide))); replace BK311 := Aside0.mk (blk_grown (g := gb311) (o := .cells #[.string ((rd_T35 l0_0 x11_1).f0), .string ((rd_T35 l0_0 x11_1).f1), .int .i64 ((rd_T35 l0_0 x11_1).f2)] 35 (0, 0)) (bp_0 BK311) hg (Kd.R_away HO_5.out (fun _ hk => hk.2))); replace HB := Aside0.mk (hb); have HO314 := Aside0.mk (ho); clear HO_5; clear ho hb hg hat))
        go_roundg k1
        case measure => have := HK1.out; omega
        case rel => exact ⟨(y312), (wrap64 (x11_1 + 1)), (by first | rfl | (simp; done) | (simp [*]; done)), H', ⟨by have := HK1.out; omega⟩, ⟨by (with_reducible repeat (first | apply Kd.R_alloc | apply Kd.R_drewN | apply Kd.R_drew)); exact Kd.R_mono HO314.out (fun _ hk => trivial)⟩, ⟨bk_ BK308⟩, ⟨bk_ BK309⟩, ⟨bl_3 HB GE308 GE309 GE311⟩⟩
       ·rw [if_neg c15] at H
        exact absurd H (by simp)
     ·rw [if_neg c9] at H
      exact absurd H (by simp)
    ·rw [if_neg c8] at H
     exact absurd H (by simp)
   ·rw [if_neg c7] at H
    have c7b0 : decide (x11_1 < (l0_0.length : Int)) = false := decide_eq_false c7
    clear c7
    simp only [Option.some.injEq, Prod.mk.injEq] at H
    obtain ⟨rfl, rfl, rfl⟩ := H
    obtain ⟨Ao21, co21, eo21⟩ := Kd.R_slice HO_5.out
    subst eo21
    have hnb22 := NB308_309.out
    have hnc22 := NB309_308.out
    obtain ⟨hcz23_0, hcz23_1, hcz23_2, hfz23_0, hfz23_1, hfz23_2⟩ := c3_ BK308
    obtain ⟨hcz24_0, hcz24_1, hcz24_2, hfz24_0, hfz24_1, hfz24_2⟩ := c3_ BK309
    go_wp2
    refine bodyPost_ret (results_cell_row rfl _ _ gb309 24 #[.slice Ao21 x5_1.length co21, .bool a0_1, .int .i64 a0_2] (0, 0) _ rfl (bp_1 BK309 NB309_308) Try.underlying24 rfl (by kernel_rfl)) rfl ?_
    exact ⟨_, by first | rfl | (simp; done) | (simp [*]; done), by (with_reducible repeat (first | apply Kd.R_alloc | apply Kd.R_drewN | apply Kd.R_drew)); exact Kd.R_mono (Kd.R_far (p := ⟨gb309, 2, none⟩) (Kd.R_far (p := ⟨gb309, 1, none⟩) (Kd.R_far (p := ⟨gb309, 0, none⟩) (Kd.R_far (p := ⟨gb308, 0, none⟩) (Kd.R_types (Kd.R_types HO_5.out BK308.out (by decide)) BK309.out (by decide)) (fun _ hk => hk.1.2) (.slice Ao21 x5_1.length co21)) (fun _ hk => hk.2) (.slice Ao21 x5_1.length co21)) (fun _ hk => hk.2) (.bool a0_1)) (fun _ hk => hk.2) (.int .i64 a0_2)) (fun _ hk => trivial), bl_2 HB GE308 GE309⟩

end Go.Proofs.Ytpdacpopkegecaa.PA
