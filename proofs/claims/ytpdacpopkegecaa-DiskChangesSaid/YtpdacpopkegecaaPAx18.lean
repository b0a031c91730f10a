-- Written for this claim by a program of this session. Lean checks it.
import Derived.Test.YtpdacpopkegecaaPAx0
import Derived.Test.YtpdacpopkegecaaPAx2
import Derived.Test.YtpdacpopkegecaaPAx7
import Derived.Test.YtpdacpopkegecaaPAx9
namespace Go.Proofs.Ytpdacpopkegecaa.PA
open Go.RowKit Go.Proofs.YtpdacpopkegecaaW.PrintWords Go.Proofs.YtpdacpopkegecaaW.PrintLast Go.Proofs.YtpdacpopkegecaaW.PrintMore Go.Proofs.Ytpdacpopkegecaa.Sh Go.Proofs.Ytpdacpopkegecaa.Op
attribute [local go_sem] max2_int min2_int max_two min_two max_three min_three max_four min_four   -- for this text's walks alone
set_option linter.unusedVariables false
set_option linter.unusedSimpArgs false

/-! ### gafferref02_Sync: function 22 -/
mutual
def gafferref02_Sync.j0 : Nat → Int → Int → Bool → List (S35) → Bool → Int → Option ((List (S35)) × Bool × Int × Int)
 | 0, _, _, _, _, _, _ => none
 | k + 1, x6, x7, x21, x586000, x586001, x586002 => if x21 = true then (gafferref02_Sync.j1 k 6 x7 x586000 x586001 x586002) else (gafferref02_Sync.j1 k x6 x7 x586000 x586001 x586002)
def gafferref02_Sync.j1 : Nat → Int → Int → List (S35) → Bool → Int → Option ((List (S35)) × Bool × Int × Int)
 | 0, _, _, _, _, _ => none
 | k + 1, x6, x7, x586000, x586001, x586002 => if x6 = 0 then ((gafferref02_Copy.f x586000 x586001 x586002).bind fun bt595 => ((gafferref02_burnt.f bt595.1 bt595.2.1 bt595.2.2).bind fun bt600 => (if bt600.2.2.2 = true then (if 0 ≤ x7 then (if x7 < (bt600.1.length : Int) then ((gafferref02_with.f k bt600.1 bt600.2.1 bt600.2.2.1 ((rd_T35 bt600.1 x7).f0) ((rd_T35 bt600.1 x7).f1) (((rd_T35 bt600.1 x7).f1).size : Int)).bind fun bt609 => (some (bt609.1, bt609.2.1, bt609.2.2, 0))) else (none)) else (none)) else (some (bt600.1, bt600.2.1, bt600.2.2.1, 8))))) else ((gafferref02_bad.f x586000 x586001 x586002 x6).bind fun bt589 => (some (bt589.1, bt589.2.1, bt589.2.2.1, bt589.2.2.2)))
end
def gafferref02_Sync.f (k : Nat) (l0_0 : List (S35)) (a0_1 : Bool) (a0_2 : Int) (a1 : ByteArray) : Option ((List (S35)) × Bool × Int × Int) := (gafferref02_ready.f k l0_0 a0_1 a0_2).bind fun t587 => ((gafferref02_find.f k l0_0 a0_1 a0_2 a1).bind fun t588 => (if t587 = 0 then (gafferref02_Sync.j0 k t587 t588 (decide (t588 < 0)) l0_0 a0_1 a0_2) else (gafferref02_Sync.j0 k t587 t588 false l0_0 a0_1 a0_2)))
theorem gafferref02_Sync.mono_l : ∀ k, (∀ y0 y1 y2 y3 y4 y5, LeO (gafferref02_Sync.j0 k y0 y1 y2 y3 y4 y5) (gafferref02_Sync.j0 (k + 1) y0 y1 y2 y3 y4 y5)) ∧ (∀ y0 y1 y2 y3 y4, LeO (gafferref02_Sync.j1 k y0 y1 y2 y3 y4) (gafferref02_Sync.j1 (k + 1) y0 y1 y2 y3 y4))
 | 0 => ⟨fun _ _ _ _ _ _ r h => by simp [gafferref02_Sync.j0] at h, fun _ _ _ _ _ r h => by simp [gafferref02_Sync.j1] at h⟩
 | k + 1 => by
  obtain ⟨ih0, ih1⟩ := gafferref02_Sync.mono_l k
  refine ⟨?_, ?_⟩
  ·intro y0 y1 y2 y3 y4 y5
   unfold gafferref02_Sync.j0
   repeat' first
   | (with_reducible exact ih0 _ _ _ _ _ _)
   | (with_reducible exact ih1 _ _ _ _ _)
   | (with_reducible exact gafferref02_find.mono _ _ _ _ _)
   | (with_reducible exact gafferref02_ready.mono _ _ _ _)
   | (with_reducible exact gafferref02_with.mono _ _ _ _ _ _ _)
   | (with_reducible exact LeO.refl _)
   | (with_reducible exact LeO.none _)
   | (with_reducible refine LeO.ite ?_ ?_)
   | (with_reducible refine LeO.bind ?_ (fun _ => ?_))
   | exact ih0 _ _ _ _ _ _
   | exact ih1 _ _ _ _ _
   | exact gafferref02_find.mono _ _ _ _ _
   | exact gafferref02_ready.mono _ _ _ _
   | exact gafferref02_with.mono _ _ _ _ _ _ _
   | exact LeO.none _
   | refine LeO.ite ?_ ?_
   | refine LeO.bind ?_ (fun _ => ?_)
  ·intro y0 y1 y2 y3 y4
   unfold gafferref02_Sync.j1
   repeat' first
   | (with_reducible exact ih0 _ _ _ _ _ _)
   | (with_reducible exact ih1 _ _ _ _ _)
   | (with_reducible exact gafferref02_find.mono _ _ _ _ _)
   | (with_reducible exact gafferref02_ready.mono _ _ _ _)
   | (with_reducible exact gafferref02_with.mono _ _ _ _ _ _ _)
   | (with_reducible exact LeO.refl _)
   | (with_reducible exact LeO.none _)
   | (with_reducible refine LeO.ite ?_ ?_)
   | (with_reducible refine LeO.bind ?_ (fun _ => ?_))
   | exact ih0 _ _ _ _ _ _
   | exact ih1 _ _ _ _ _
   | exact gafferref02_find.mono _ _ _ _ _
   | exact gafferref02_ready.mono _ _ _ _
   | exact gafferref02_with.mono _ _ _ _ _ _ _
   | exact LeO.none _
   | refine LeO.ite ?_ ?_
   | refine LeO.bind ?_ (fun _ => ?_)
theorem gafferref02_Sync.mono : ∀ a0 a1 a2 a3 k, LeO (gafferref02_Sync.f k a0 a1 a2 a3) (gafferref02_Sync.f (k + 1) a0 a1 a2 a3) := by
 intro a0 a1 a2 a3 k
 obtain ⟨ih0, ih1⟩ := gafferref02_Sync.mono_l k
 unfold gafferref02_Sync.f
 repeat' first
   | (with_reducible exact ih0 _ _ _ _ _ _)
   | (with_reducible exact ih1 _ _ _ _ _)
   | (with_reducible exact gafferref02_find.mono _ _ _ _ _)
   | (with_reducible exact gafferref02_ready.mono _ _ _ _)
   | (with_reducible exact gafferref02_with.mono _ _ _ _ _ _ _)
   | (with_reducible exact LeO.refl _)
   | (with_reducible exact LeO.none _)
   | (with_reducible refine LeO.ite ?_ ?_)
   | (with_reducible refine LeO.bind ?_ (fun _ => ?_))
   | exact ih0 _ _ _ _ _ _
   | exact ih1 _ _ _ _ _
   | exact gafferref02_find.mono _ _ _ _ _
   | exact gafferref02_ready.mono _ _ _ _
   | exact gafferref02_with.mono _ _ _ _ _ _ _
   | exact LeO.none _
   | refine LeO.ite ?_ ?_
   | refine LeO.bind ?_ (fun _ => ?_)
set_option maxHeartbeats 80000000 in
set_option maxRecDepth 100000 in
theorem gafferref02_Sync.calls (k : Nat) (A0_0 : Option Addr) (c0_0 : Nat) (l0_0 : List (S35)) (a0_1 : Bool) (a0_2 : Int) (a1 : ByteArray) (r1 : List (S35)) (r2 : Bool) (r3 : Int) (r4 : Int) (w : World) (hr0_0 : Kd.C k35 w A0_0 l0_0.length l0_0) (hc0_0 : l0_0.length ≤ c0_0) (h : gafferref02_Sync.f k l0_0 a0_1 a0_2 a1 = some (r1, r2, r3, r4)) :
  Calls Try.prog 22 #[.agg #[.slice A0_0 l0_0.length c0_0, .bool a0_1, .int .i64 a0_2], .string a1] w fun e w' => ∃ v0_ : Value, e = .returned (.tuple #[.agg #[v0_, .bool r2, .int .i64 r3], .int .i64 r4]) ∧ Kd.R k35 35 w' w.heap.size (fun _ => True) v0_ r1 ∧ Below w.heap.size w w' := by
 have hu24 := Try.underlying24
 have hu35 := Try.underlying35
 have HR0_0 := Aside0.mk hr0_0
 have HC0_0 := Aside0.mk hc0_0
 clear hr0_0 hc0_0
 have HB := Aside0.mk (Below.refl w.heap.size w)
 have H : ((gafferref02_ready.f k l0_0 a0_1 a0_2).bind fun t587 => ((gafferref02_find.f k l0_0 a0_1 a0_2 a1).bind fun t588 => (if t587 = 0 then (gafferref02_Sync.j0 k t587 t588 (decide (t588 < 0)) l0_0 a0_1 a0_2) else (gafferref02_Sync.j0 k t587 t588 false l0_0 a0_1 a0_2)))) = some (r1, r2, r3, r4) := h
 clear h
 replace H := Option.bind_eq_some_iff.mp H
 obtain ⟨t587, A30, H⟩ := H
 replace H : ((gafferref02_find.f k l0_0 a0_1 a0_2 a1).bind fun t588 => (if t587 = 0 then (gafferref02_Sync.j0 k t587 t588 (decide (t588 < 0)) l0_0 a0_1 a0_2) else (gafferref02_Sync.j0 k t587 t588 false l0_0 a0_1 a0_2))) = some (r1, r2, r3, r4) := H
 have A3 := Aside0.mk A30
 clear A30
 replace H := Option.bind_eq_some_iff.mp H
 obtain ⟨t588, A40, H⟩ := H
 replace H : (if t587 = 0 then (gafferref02_Sync.j0 k t587 t588 (decide (t588 < 0)) l0_0 a0_1 a0_2) else (gafferref02_Sync.j0 k t587 t588 false l0_0 a0_1 a0_2)) = some (r1, r2, r3, r4) := H
 have A4 := Aside0.mk A40
 clear A40
 have HC5 := Aside0.mk H
 clear H
 go_enter Try.func22, Try.ntmps22
 go_upto_region 3 with (first | ((with_reducible refine gate_dst (N := 2) rfl ?_); refine box_event ?hg (N := 2) ?hd (cs := #[.slice A0_0 l0_0.length c0_0, .bool a0_1, .int .i64 a0_2]) (t := 24) ?hr ?_; (case hd => rfl); (case hg => rfl); (case hr => first | (go_simp; done) | (go_simp; rfl)); intro gb585 hg w6 hbox hb; have BK585 := Aside0.mk (hbox); have GW585 := Aside0.mk (bs_0 hg HB); have GE585 := Aside0.mk (bs_0 hg HB); replace HB := Aside0.mk (below_step (bl_ HB) hb); clear hb hbox hg) | ((with_reducible refine gate_dst (N := 4) rfl ?_); refine box_event ?hg (N := 4) ?hd (cs := #[.slice none 0 0, .bool false, .int .i64 0]) (t := 24) ?hr ?_; (case hd => rfl); (case hg => rfl); (case hr => first | (go_simp; done) | (go_simp; rfl)); intro gb586 hg w7 hbox hb; have BK586 := Aside0.mk (hbox); have GW586 := Aside0.mk (bs_1 hg HB GE585); have GE586 := Aside0.mk (bs_1 hg HB GE585); replace HB := Aside0.mk (below_step (bl_1 HB GE585) hb); have NB585_586 := Aside0.mk (nb_ hg BK585); have NB586_585 := Aside0.mk (nc_ hg BK585); replace BK585 := Aside0.mk (bb_ BK585 hb); clear hb hbox hg; have hnb8 := NB585_586.out; have hnc8 := NB586_585.out; obtain ⟨hcz9_0, hcz9_1, hcz9_2, hfz9_0, hfz9_1, hfz9_2⟩ := c3_ BK585) | ((with_reducible refine gate_callee (f := 36) rfl ?_); refine goesL_ (some 12) rfl rfl Try.func36 (by kernel_rfl) rfl #[.agg #[.slice A0_0 l0_0.length c0_0, .bool a0_1, .int .i64 a0_2]] rfl (ar_) ?_; (with_reducible refine (gafferref02_ready.calls k _ _ l0_0 a0_1 a0_2 t587 _ ?side1 ?side2 A3.out).mono ?_); (case side1 => repeat (first | exact (Kd.C_below HR0_0.out HB.out) | (with_reducible refine Kd.C_alloc ?_ _) | (with_reducible refine Kd.C_drewN ?_ _) | (with_reducible refine Kd.C_drew ?_))); (case side2 => exact HC0_0.out); rintro e w10 ⟨rfl, hb⟩; refine ⟨_, rfl, ?_⟩; replace BK585 := Aside0.mk (bb_ BK585 hb); replace BK586 := Aside0.mk (bb_ BK586 hb); replace HB := Aside0.mk (below_step (bl_2 HB GE585 GE586) hb); (try clear hb); (try clear hb2); (try clear hk); (try clear hi); obtain ⟨hcz11_0, hcz11_1, hcz11_2, hfz11_0, hfz11_1, hfz11_2⟩ := c3_ BK585) | ((with_reducible refine gate_callee (f := 37) rfl ?_); refine goesL_ (some 15) rfl rfl Try.func37 (by kernel_rfl) rfl #[.agg #[.slice A0_0 l0_0.length c0_0, .bool a0_1, .int .i64 a0_2], .string a1] rfl (ar_) ?_; (with_reducible refine (gafferref02_find.calls k _ _ l0_0 a0_1 a0_2 a1 t588 _ ?side1 ?side2 A4.out).mono ?_); (case side1 => repeat (first | exact (Kd.C_below HR0_0.out HB.out) | (with_reducible refine Kd.C_alloc ?_ _) | (with_reducible refine Kd.C_drewN ?_ _) | (with_reducible refine Kd.C_drew ?_))); (case side2 => exact HC0_0.out); rintro e w12 ⟨rfl, hb⟩; refine ⟨_, rfl, ?_⟩; replace BK585 := Aside0.mk (bb_ BK585 hb); replace BK586 := Aside0.mk (bb_ BK586 hb); replace HB := Aside0.mk (below_step (bl_2 HB GE585 GE586) hb); (try clear hb); (try clear hb2); (try clear hk); (try clear hi)))
 (try simp only [Act.put, List.setIfInBounds_toArray, List.set_cons_zero, List.set_cons_succ])
 go_cut [21] (fun v21 wc => ∃ (kq : Nat) (x21_4 : Bool), v21 = .bool x21_4 ∧ Aside0 (gafferref02_Sync.j0 kq t587 t588 x21_4 l0_0 a0_1 a0_2 = some (r1, r2, r3, r4)) ∧ Aside0 (kq ≤ k) ∧ Aside0 (wc.heap[gb585]? = some (.cells #[(.slice A0_0 l0_0.length c0_0), .bool a0_1, .int .i64 a0_2] 24 (0, 0))) ∧ Aside0 (wc.heap[gb586]? = some (.cells #[(.slice none 0 0), .bool false, .int .i64 0] 24 (0, 0))) ∧ Aside0 (Below w.heap.size w wc))
 case first =>
  have H := HC5.out
  clear HC5
  by_cases c13 : t587 = 0
  ·rw [if_pos c13] at H
   have c13b0 : (t587 == 0) = true := beq_iff_eq.mpr c13
   have c13b1 : (t587 != 0) = false := bne_eq_false_iff_eq.mpr c13
   clear c13
   (first | rw [c13b0] | (simp only [i64_w, i32_w]; rw [c13b0]) | skip)
   have H' := Aside0.mk H
   clear H
   go_wp2
   go_meet
   case rel => exact ⟨_, (decide (t588 < 0)), (by first | rfl | (simp; done) | (simp [*]; done)), H', ⟨by first | omega | exact Nat.le_refl _⟩, ⟨bk_ BK585⟩, ⟨bk_ BK586⟩, ⟨bl_2 HB GE585 GE586⟩⟩
  ·rw [if_neg c13] at H
   have c13b0 : (t587 == 0) = false := beq_eq_false_iff_ne.mpr c13
   have c13b1 : (t587 != 0) = true := bne_iff_ne.mpr c13
   (first | rw [c13b0] | (simp only [i64_w, i32_w]; rw [c13b0]) | skip)
   have H' := Aside0.mk H
   clear H
   go_wp2
   go_meet
   case rel => exact ⟨_, (false), (by first | rfl | (simp; done) | (simp [*]; done)), H', ⟨by first | omega | exact Nat.le_refl _⟩, ⟨bk_ BK585⟩, ⟨bk_ BK586⟩, ⟨bl_2 HB GE585 GE586⟩⟩
 case rest =>
  clear HC5
  try clear c1
  try clear c2
  try clear p2
  try clear c3
  try clear c8
  try clear c13
  try clear c13b0
  try clear c13b1
  try clear hcz11_0
  try clear hcz11_1
  try clear hcz11_2
  try clear hcz9_0
  try clear hcz9_1
  try clear hcz9_2
  try clear hfz11_0
  try clear hfz11_1
  try clear hfz11_2
  try clear hfz9_0
  try clear hfz9_1
  try clear hfz9_2
  obtain ⟨kq, x21_4, rfl, HA, HJ4, BK585, BK586, HB⟩ := hcut
  cases kq with
  | zero => exact absurd HA.out (by simp [gafferref02_Sync.j0])
  | succ kj4 =>
   have H := HA.out
   clear HA
   simp only [gafferref02_Sync.j0] at H
   have HC14 := Aside0.mk H
   clear H
   go_upto_if 21 with (fail)
   go_cut [6] (fun v6 wc => ∃ (kq : Nat) (x6_13 : Int), v6 = .int .i64 x6_13 ∧ Aside0 (gafferref02_Sync.j1 kq x6_13 t588 l0_0 a0_1 a0_2 = some (r1, r2, r3, r4)) ∧ Aside0 (kq ≤ kj4) ∧ Aside0 (wc.heap[gb585]? = some (.cells #[(.slice A0_0 l0_0.length c0_0), .bool a0_1, .int .i64 a0_2] 24 (0, 0))) ∧ Aside0 (wc.heap[gb586]? = some (.cells #[(.slice none 0 0), .bool false, .int .i64 0] 24 (0, 0))) ∧ Aside0 (Below w.heap.size w wc))
   case first =>
    have H := HC14.out
    clear HC14
    by_cases c15 : x21_4 = true
    ·subst c15
     have H1 : (gafferref02_Sync.j1 kj4 6 t588 l0_0 a0_1 a0_2) = some (r1, r2, r3, r4) := by rw [if_pos rfl] at H; exact H
     clear H
     have H := H1
     clear H1
     have H' := Aside0.mk H
     clear H
     go_wp2
     go_meet
     case rel => exact ⟨_, (6), (by first | rfl | (simp; done) | (simp [*]; done)), H', ⟨by have := HJ4.out; first | omega | exact Nat.le_refl _⟩, ⟨bk_ BK585⟩, ⟨bk_ BK586⟩, ⟨bl_2 HB GE585 GE586⟩⟩
    ·replace c15 := Bool.eq_false_iff.mpr c15
     subst c15
     have H1 : (gafferref02_Sync.j1 kj4 t587 t588 l0_0 a0_1 a0_2) = some (r1, r2, r3, r4) := by rw [if_neg (show ¬ (false = true) by decide)] at H; exact H
     clear H
     have H := H1
     clear H1
     have H' := Aside0.mk H
     clear H
     go_wp2
     go_meet
     case rel => exact ⟨_, (t587), (by first | rfl | (simp; done) | (simp [*]; done)), H', ⟨by have := HJ4.out; first | omega | exact Nat.le_refl _⟩, ⟨bk_ BK585⟩, ⟨bk_ BK586⟩, ⟨bl_2 HB GE585 GE586⟩⟩
   case rest =>
    clear HC14
    try clear c1
    try clear c2
    try clear p2
    try clear c3
    try clear c8
    try clear c13
    try clear c13b0
    try clear c13b1
    try clear c15
    try clear hcz11_0
    try clear hcz11_1
    try clear hcz11_2
    try clear hcz9_0
    try clear hcz9_1
    try clear hcz9_2
    try clear hfz11_0
    try clear hfz11_1
    try clear hfz11_2
    try clear hfz9_0
    try clear hfz9_1
    try clear hfz9_2
    try clear p2
    obtain ⟨kq, x6_13, rfl, HA, HJ13, BK585, BK586, HB⟩ := hcut
    cases kq with
    | zero => exact absurd HA.out (by simp [gafferref02_Sync.j1])
    | succ kj13 =>
     have H := HA.out
     clear HA
     simp only [gafferref02_Sync.j1] at H
     by_cases c16 : x6_13 = 0
     ·rw [if_pos c16] at H
      have c16b0 : (x6_13 == 0) = true := beq_iff_eq.mpr c16
      have c16b1 : (x6_13 != 0) = false := bne_eq_false_iff_eq.mpr c16
      clear c16
      replace H := Option.bind_eq_some_iff.mp H
      obtain ⟨⟨t595, t598, t599⟩, A170, H⟩ := H
      replace H : ((gafferref02_burnt.f t595 t598 t599).bind fun bt600 => (if bt600.2.2.2 = true then (if 0 ≤ t588 then (if t588 < (bt600.1.length : Int) then ((gafferref02_with.f kj13 bt600.1 bt600.2.1 bt600.2.2.1 ((rd_T35 bt600.1 t588).f0) ((rd_T35 bt600.1 t588).f1) (((rd_T35 bt600.1 t588).f1).size : Int)).bind fun bt609 => (some (bt609.1, bt609.2.1, bt609.2.2, 0))) else (none)) else (none)) else (some (bt600.1, bt600.2.1, bt600.2.2.1, 8)))) = some (r1, r2, r3, r4) := H
      have A17 := Aside0.mk A170
      clear A170
      replace H := Option.bind_eq_some_iff.mp H
      obtain ⟨⟨t600, t603, t604, t605⟩, A180, H⟩ := H
      replace H : (if t605 = true then (if 0 ≤ t588 then (if t588 < (t600.length : Int) then ((gafferref02_with.f kj13 t600 t603 t604 ((rd_T35 t600 t588).f0) ((rd_T35 t600 t588).f1) (((rd_T35 t600 t588).f1).size : Int)).bind fun bt609 => (some (bt609.1, bt609.2.1, bt609.2.2, 0))) else (none)) else (none)) else (some (t600, t603, t604, 8))) = some (r1, r2, r3, r4) := H
      have A18 := Aside0.mk A180
      clear A180
      by_cases c19 : t605 = true
      ·subst c19
       have H1 : (if 0 ≤ t588 then (if t588 < (t600.length : Int) then ((gafferref02_with.f kj13 t600 t603 t604 ((rd_T35 t600 t588).f0) ((rd_T35 t600 t588).f1) (((rd_T35 t600 t588).f1).size : Int)).bind fun bt609 => (some (bt609.1, bt609.2.1, bt609.2.2, 0))) else (none)) else (none)) = some (r1, r2, r3, r4) := by rw [if_pos rfl] at H; exact H
       clear H
       have H := H1
       clear H1
       by_cases c20 : 0 ≤ t588
       ·rw [if_pos c20] at H
        have c20b0 : decide (0 ≤ t588) = true := decide_eq_true c20
        clear c20
        by_cases c21 : t588 < (t600.length : Int)
        ·rw [if_pos c21] at H
         have c21b0 : decide (t588 < (t600.length : Int)) = true := decide_eq_true c21
         clear c21
         replace H := Option.bind_eq_some_iff.mp H
         obtain ⟨⟨t609, t612, t613⟩, A220, H⟩ := H
         replace H : (some (t609, t612, t613, 0)) = some (r1, r2, r3, r4) := H
         have A22 := Aside0.mk A220
         clear A220
         simp only [Option.some.injEq, Prod.mk.injEq] at H
         obtain ⟨rfl, rfl, rfl, rfl⟩ := H
         have hnb23 := NB585_586.out
         have hnc23 := NB586_585.out
         obtain ⟨hcz24_0, hcz24_1, hcz24_2, hfz24_0, hfz24_1, hfz24_2⟩ := c3_ BK585
         go_wp2_with (first | ((with_reducible refine gate_callee (f := 11) rfl ?_); refine goesL_ (some 31) rfl rfl Try.func11 (by kernel_rfl) rfl #[.agg #[.slice A0_0 l0_0.length c0_0, .bool a0_1, .int .i64 a0_2]] rfl (ar_) ?_; (with_reducible refine (gafferref02_Copy.calls _ _ l0_0 a0_1 a0_2 t595 t598 t599 _ ?side1 ?side2 A17.out).mono ?_); (case side1 => repeat (first | exact (Kd.C_below HR0_0.out HB.out) | (with_reducible refine Kd.C_alloc ?_ _) | (with_reducible refine Kd.C_drewN ?_ _) | (with_reducible refine Kd.C_drew ?_))); (case side2 => exact HC0_0.out); rintro e w25 ⟨v596, rfl, ho0, hb⟩; refine ⟨_, rfl, ?_⟩; have HO597 := Aside0.mk (Kd.R_lower ho0 (below_size (bl_2 HB GE585 GE586))); replace BK585 := Aside0.mk (bb_ BK585 hb); replace BK586 := Aside0.mk (bb_ BK586 hb); replace HB := Aside0.mk (below_step (bl_2 HB GE585 GE586) hb); (try clear hb); (try clear hb2); (try clear hk); (try clear hi); (try clear ho0); obtain ⟨Ao26, co26, eo26⟩ := Kd.R_slice HO597.out; subst eo26) | ((with_reducible refine gate_callee (f := 40) rfl ?_); refine goesL_ (some 32) rfl rfl Try.func40 (by kernel_rfl) rfl #[.agg #[.slice Ao26 t595.length co26, .bool t598, .int .i64 t599]] rfl (ar_) ?_; (with_reducible refine (gafferref02_burnt.calls (fun k_ => some k_ = (.slice Ao26 t595.length co26 : Value).ownBlock) (.slice Ao26 t595.length co26) t595 t598 t599 t600 t603 t604 true w _ ?side1 ?side2 A18.out).mono ?_); (case side1 => repeat (first | (with_reducible first | exact HB.out | apply below_alloc | apply pw_below_drewN | apply below_drew1 | refine below_set ?_ GE585.out | refine below_set ?_ GE586.out) | exact HB.out)); (case side2 => exact Kd.R_tight rfl HO597.out); rintro e w27 ⟨v601, rfl, ho0, hb, hkp⟩; refine ⟨_, rfl, ?_⟩; replace BK585 := Aside0.mk (blk_kept (bk_ BK585) hkp (fun hs_ => (fun e_ => (Kd.R_ne HO597.out BK585.out (by decide)) e_) hs_)); replace BK586 := Aside0.mk (blk_kept (bk_ BK586) hkp (fun hs_ => (fun e_ => (Kd.R_ne HO597.out BK586.out (by decide)) e_) hs_)); have HO602 := Aside0.mk (Kd.R_mono (ok' := fun k_ => True) ho0 (fun k_ hk_ => trivial)); replace HB := Aside0.mk (hb); clear HO597; (try clear hb); (try clear hkp); (try clear ho0)) | ((with_reducible refine gate_dst (N := 8) rfl ?_); refine box_event ?hg (N := 8) ?hd (cs := #[.slice none 0 0, .bool false, .int .i64 0]) (t := 24) ?hr ?_; (case hd => rfl); (case hg => rfl); (case hr => first | (go_simp; done) | (go_simp; rfl)); intro gb606 hg w28 hbox hb; replace HO602 := Aside0.mk (Kd.R_below (by (with_reducible repeat (first | apply Kd.R_alloc | apply Kd.R_drewN | apply Kd.R_drew)); exact HO602.out) hb); have BK606 := Aside0.mk (hbox); have GW606 := Aside0.mk (bs_2 hg HB GE585 GE586); have GE606 := Aside0.mk (bs_2 hg HB GE585 GE586); replace HB := Aside0.mk (below_step (bl_2 HB GE585 GE586) hb); have NB585_606 := Aside0.mk (nb_ hg BK585); have NB606_585 := Aside0.mk (nc_ hg BK585); replace BK585 := Aside0.mk (bb_ BK585 hb); have NB586_606 := Aside0.mk (nb_ hg BK586); have NB606_586 := Aside0.mk (nc_ hg BK586); replace BK586 := Aside0.mk (bb_ BK586 hb); clear hb hbox hg; obtain ⟨Ao29, co29, eo29⟩ := Kd.R_slice HO602.out; subst eo29; have hnb30 := NB606_585.out; have hnc30 := NB585_606.out; have hnb31 := NB606_586.out; have hnc31 := NB586_606.out; obtain ⟨hcz32_0, hcz32_1, hcz32_2, hfz32_0, hfz32_1, hfz32_2⟩ := c3_ BK606; have p607 : 0 ≤ (t588 : Int) := of_decide_eq_true (by first | (with_reducible assumption) | assumption); have q607 : t588 < (t600.length : Int) := of_decide_eq_true (by first | (with_reducible assumption) | assumption); obtain ⟨ad607, e607, hx607_0, hx607_1, hx607_2⟩ := at_T35 (Kd.R_reads' HO602.out).2.2 t588 p607 q607; cases e607; have hn607_0 : ad607.block ≠ gb606 := Kd.own_blk (Kd.R_ne HO602.out BK606.out (by decide)); have hn607_1 : ad607.block ≠ gb606 := Kd.own_blk (Kd.R_ne HO602.out BK606.out (by decide)); have hn607_2 : ad607.block ≠ gb606 := Kd.own_blk (Kd.R_ne HO602.out BK606.out (by decide)); replace hx607_0 := (cf_ (p := ⟨gb606, 0, none⟩) hn607_0 (.slice (some ad607) t600.length co29)).trans hx607_0; replace hx607_1 := (cf_ (p := ⟨gb606, 0, none⟩) hn607_0 (.slice (some ad607) t600.length co29)).trans hx607_1; replace hx607_2 := (cf_ (p := ⟨gb606, 0, none⟩) hn607_0 (.slice (some ad607) t600.length co29)).trans hx607_2; replace hx607_0 := (cf_ (p := ⟨gb606, 1, none⟩) hn607_1 (.bool t603)).trans hx607_0; replace hx607_1 := (cf_ (p := ⟨gb606, 1, none⟩) hn607_1 (.bool t603)).trans hx607_1; replace hx607_2 := (cf_ (p := ⟨gb606, 1, none⟩) hn607_1 (.bool t603)).trans hx607_2; replace hx607_0 := (cf_ (p := ⟨gb606, 2, none⟩) hn607_2 (.int .i64 t604)).trans hx607_0; replace hx607_1 := (cf_ (p := ⟨gb606, 2, none⟩) hn607_2 (.int .i64 t604)).trans hx607_1; replace hx607_2 := (cf_ (p := ⟨gb606, 2, none⟩) hn607_2 (.int .i64 t604)).trans hx607_2; clear hn607_0; clear hn607_1; clear hn607_2; replace p607 := eq_true p607; replace q607 := eq_true q607) | ((with_reducible refine gate_dst (N := 10) rfl ?_); refine box_event ?hg (N := 10) ?hd (cs := #[.string (⟨#[]⟩ : ByteArray), .string (⟨#[]⟩ : ByteArray), .int .i64 0]) (t := 35) ?hr ?_; (case hd => rfl); (case hg => rfl); (case hr => first | (go_simp; done) | (go_simp; rfl)); intro gb608 hg w33 hbox hb; replace HO602 := Aside0.mk (Kd.R_below (Kd.R_elderB (by (with_reducible repeat (first | apply Kd.R_alloc | apply Kd.R_drewN | apply Kd.R_drew)); exact (Kd.R_mono (Kd.R_far (p := ⟨gb606, 2, none⟩) (Kd.R_far (p := ⟨gb606, 1, none⟩) (Kd.R_far (p := ⟨gb606, 0, none⟩) (Kd.R_types HO602.out BK606.out (by decide)) (fun _ hk => hk.2) (.slice (some ad607) t600.length co29)) (fun _ hk => hk.2) (.bool t603)) (fun _ hk => hk.2) (.int .i64 t604)) (fun _ h_ => h_.1))) gb608 (Nat.le_of_eq hg.symm)) hb); have BK608 := Aside0.mk (hbox); have GW608 := Aside0.mk (bs_3 hg HB GE585 GE586 GE606); have GE608 := Aside0.mk (bs_3 hg HB GE585 GE586 GE606); replace HB := Aside0.mk (below_step (bl_3 HB GE585 GE586 GE606) hb); have NB585_608 := Aside0.mk ((by rw [hg]; exact Nat.ne_of_lt (blk_lt (g := gb585) (o := .cells #[.slice A0_0 l0_0.length c0_0, .bool a0_1, .int .i64 a0_2] 24 (0, 0)) (bp_1 BK585 NB585_606)) : gb585 ≠ gb608)); have NB608_585 := Aside0.mk ((by rw [hg]; exact Nat.ne_of_gt (blk_lt (g := gb585) (o := .cells #[.slice A0_0 l0_0.length c0_0, .bool a0_1, .int .i64 a0_2] 24 (0, 0)) (bp_1 BK585 NB585_606)) : gb608 ≠ gb585)); replace BK585 := Aside0.mk (blk_below (g := gb585) (o := .cells #[.slice A0_0 l0_0.length c0_0, .bool a0_1, .int .i64 a0_2] 24 (0, 0)) (bp_1 BK585 NB585_606) hb); have NB586_608 := Aside0.mk ((by rw [hg]; exact Nat.ne_of_lt (blk_lt (g := gb586) (o := .cells #[.slice none 0 0, .bool false, .int .i64 0] 24 (0, 0)) (bp_1 BK586 NB586_606)) : gb586 ≠ gb608)); have NB608_586 := Aside0.mk ((by rw [hg]; exact Nat.ne_of_gt (blk_lt (g := gb586) (o := .cells #[.slice none 0 0, .bool false, .int .i64 0] 24 (0, 0)) (bp_1 BK586 NB586_606)) : gb608 ≠ gb586)); replace BK586 := Aside0.mk (blk_below (g := gb586) (o := .cells #[.slice none 0 0, .bool false, .int .i64 0] 24 (0, 0)) (bp_1 BK586 NB586_606) hb); have NB606_608 := Aside0.mk ((by rw [hg]; exact Nat.ne_of_lt (blk_lt (g := gb606) (o := .cells #[.slice (some ad607) t600.length co29, .bool t603, .int .i64 t604] 24 (0, 0)) (bp_0 BK606)) : gb606 ≠ gb608)); have NB608_606 := Aside0.mk ((by rw [hg]; exact Nat.ne_of_gt (blk_lt (g := gb606) (o := .cells #[.slice (some ad607) t600.length co29, .bool t603, .int .i64 t604] 24 (0, 0)) (bp_0 BK606)) : gb608 ≠ gb606)); replace BK606 := Aside0.mk (blk_below (g := gb606) (o := .cells #[.slice (some ad607) t600.length co29, .bool t603, .int .i64 t604] 24 (0, 0)) (bp_0 BK606) hb); clear hb hbox hg; have hnb34 := NB608_585.out; have hnc34 := NB585_608.out; have hnb35 := NB608_586.out; have hnc35 := NB586_608.out; have hnb36 := NB608_606.out; have hnc36 := NB606_608.out; obtain ⟨hcz37_0, hcz37_1, hcz37_2, hfz37_0, hfz37_1, hfz37_2⟩ := c3_ BK608; obtain ⟨hcz38_0, hcz38_1, hcz38_2, hfz38_0, hfz38_1, hfz38_2⟩ := c3_ BK606) | ((with_reducible refine gate_callee (f := 41) rfl ?_); refine goesL_ (some 49) rfl rfl Try.func41 (by kernel_rfl) rfl #[.agg #[.slice (some ad607) t600.length co29, .bool t603, .int .i64 t604], .agg #[.string ((rd_T35 t600 t588).f0), .string ((rd_T35 t600 t588).f1), .int .i64 (((rd_T35 t600 t588).f1).size : Int)]] rfl (ar_) ?_; (with_reducible refine (gafferref02_with.calls kj13 _ _ t600 t603 t604 ((rd_T35 t600 t588).f0) ((rd_T35 t600 t588).f1) (((rd_T35 t600 t588).f1).size : Int) t609 t612 t613 _ ?side1 ?side2 A22.out).mono ?_); (case side1 => refine (Kd.R_reads' (e := 35) (base := w.heap.size) (ok := fun k_ => (True ∧ k_ ≠ gb608)) (n := t600.length) (c := co29) ?_).2.2; exact (by (with_reducible repeat (first | apply Kd.R_alloc | apply Kd.R_drewN | apply Kd.R_drew)); exact (Kd.R_mono (Kd.R_far (p := ⟨gb608, 2, none⟩) (Kd.R_far (p := ⟨gb608, 2, none⟩) (Kd.R_far (p := ⟨gb608, 1, none⟩) (Kd.R_far (p := ⟨gb608, 0, none⟩) (Kd.R_mono HO602.out (fun k_ hk => (⟨hk, hk.2⟩ : _ ∧ k_ ≠ gb608))) (fun _ hk => hk.2) (.string ((rd_T35 t600 t588).f0))) (fun _ hk => hk.2) (.string ((rd_T35 t600 t588).f1))) (fun _ hk => hk.2) (.int .i64 ((rd_T35 t600 t588).f2))) (fun _ hk => hk.2) (.int .i64 (((rd_T35 t600 t588).f1).size : Int))) (fun _ h_ => h_.1)))); (case side2 => exact (Kd.R_reads' HO602.out).2.1); rintro e w39 ⟨v610, rfl, ho0, hb⟩; refine ⟨_, rfl, ?_⟩; have HO611 := Aside0.mk (Kd.R_lower (Kd.R_newB (Kd.R_new' ho0 (Kd.R_lt (by (with_reducible repeat (first | apply Kd.R_alloc | apply Kd.R_drewN | apply Kd.R_drew)); exact (Kd.R_mono (Kd.R_far (p := ⟨gb608, 2, none⟩) (Kd.R_far (p := ⟨gb608, 2, none⟩) (Kd.R_far (p := ⟨gb608, 1, none⟩) (Kd.R_far (p := ⟨gb608, 0, none⟩) (Kd.R_mono HO602.out (fun k_ hk => (⟨hk, hk.2⟩ : _ ∧ k_ ≠ gb608))) (fun _ hk => hk.2) (.string ((rd_T35 t600 t588).f0))) (fun _ hk => hk.2) (.string ((rd_T35 t600 t588).f1))) (fun _ hk => hk.2) (.int .i64 ((rd_T35 t600 t588).f2))) (fun _ hk => hk.2) (.int .i64 (((rd_T35 t600 t588).f1).size : Int))) (fun _ h_ => h_.1))))) (g := gb608) (o := .cells #[.string ((rd_T35 t600 t588).f0), .string ((rd_T35 t600 t588).f1), .int .i64 (((rd_T35 t600 t588).f1).size : Int)] 35 (0, 0)) (bp_0 BK608)) (below_size (bl_4 HB GE585 GE586 GE606 GE608))); replace HO602 := Aside0.mk (Kd.R_elder' (by (with_reducible repeat (first | apply Kd.R_alloc | apply Kd.R_drewN | apply Kd.R_drew)); exact (Kd.R_mono (Kd.R_far (p := ⟨gb608, 2, none⟩) (Kd.R_far (p := ⟨gb608, 2, none⟩) (Kd.R_far (p := ⟨gb608, 1, none⟩) (Kd.R_far (p := ⟨gb608, 0, none⟩) (Kd.R_mono HO602.out (fun k_ hk => (⟨hk, hk.2⟩ : _ ∧ k_ ≠ gb608))) (fun _ hk => hk.2) (.string ((rd_T35 t600 t588).f0))) (fun _ hk => hk.2) (.string ((rd_T35 t600 t588).f1))) (fun _ hk => hk.2) (.int .i64 ((rd_T35 t600 t588).f2))) (fun _ hk => hk.2) (.int .i64 (((rd_T35 t600 t588).f1).size : Int))) (fun _ h_ => h_.1))) (Kd.R_base ho0) hb); replace BK585 := Aside0.mk (blk_below (g := gb585) (o := .cells #[.slice A0_0 l0_0.length c0_0, .bool a0_1, .int .i64 a0_2] 24 (0, 0)) (bp_1 BK585 NB585_608) hb); replace BK586 := Aside0.mk (blk_below (g := gb586) (o := .cells #[.slice none 0 0, .bool false, .int .i64 0] 24 (0, 0)) (bp_1 BK586 NB586_608) hb); replace BK606 := Aside0.mk (blk_below (g := gb606) (o := .cells #[.slice (some ad607) t600.length co29, .bool t603, .int .i64 t604] 24 (0, 0)) (bp_1 BK606 NB606_608) hb); replace BK608 := Aside0.mk (blk_below (g := gb608) (o := .cells #[.string ((rd_T35 t600 t588).f0), .string ((rd_T35 t600 t588).f1), .int .i64 (((rd_T35 t600 t588).f1).size : Int)] 35 (0, 0)) (bp_0 BK608) hb); replace HB := Aside0.mk (below_step (bl_4 HB GE585 GE586 GE606 GE608) hb); (try clear hb); (try clear hb2); (try clear hk); (try clear hi); (try clear ho0); obtain ⟨Ao40, co40, eo40⟩ := Kd.R_slice HO611.out; subst eo40; obtain ⟨hcz41_0, hcz41_1, hcz41_2, hfz41_0, hfz41_1, hfz41_2⟩ := c3_ BK586))
         refine bodyPost_ret (results_ct rfl _ _ gb586 24 #[.slice Ao40 t609.length co40, .bool t612, .int .i64 t613] (0, 0) _ rfl (bp_0 BK586) Try.underlying24 rfl (by kernel_rfl)) rfl ?_
         exact ⟨_, by first | rfl | (simp; done) | (simp [*]; done), by (with_reducible repeat (first | apply Kd.R_alloc | apply Kd.R_drewN | apply Kd.R_drew)); exact Kd.R_mono (Kd.R_far (p := ⟨gb586, 2, none⟩) (Kd.R_far (p := ⟨gb586, 1, none⟩) (Kd.R_far (p := ⟨gb586, 0, none⟩) (Kd.R_types HO611.out BK586.out (by decide)) (fun _ hk => hk.2) (.slice Ao40 t609.length co40)) (fun _ hk => hk.2) (.bool t612)) (fun _ hk => hk.2) (.int .i64 t613)) (fun _ hk => trivial), bl_4 HB GE585 GE586 GE606 GE608⟩
        ·rw [if_neg c21] at H
         exact absurd H (by simp)
       ·rw [if_neg c20] at H
        exact absurd H (by simp)
      ·replace c19 := Bool.eq_false_iff.mpr c19
       subst c19
       have H1 : (some (t600, t603, t604, 8)) = some (r1, r2, r3, r4) := by rw [if_neg (show ¬ (false = true) by decide)] at H; exact H
       clear H
       have H := H1
       clear H1
       simp only [Option.some.injEq, Prod.mk.injEq] at H
       obtain ⟨rfl, rfl, rfl, rfl⟩ := H
       have hnb42 := NB585_586.out
       have hnc42 := NB586_585.out
       obtain ⟨hcz43_0, hcz43_1, hcz43_2, hfz43_0, hfz43_1, hfz43_2⟩ := c3_ BK585
       go_wp2_with (first | ((with_reducible refine gate_callee (f := 11) rfl ?_); refine goesL_ (some 31) rfl rfl Try.func11 (by kernel_rfl) rfl #[.agg #[.slice A0_0 l0_0.length c0_0, .bool a0_1, .int .i64 a0_2]] rfl (ar_) ?_; (with_reducible refine (gafferref02_Copy.calls _ _ l0_0 a0_1 a0_2 t595 t598 t599 _ ?side1 ?side2 A17.out).mono ?_); (case side1 => repeat (first | exact (Kd.C_below HR0_0.out HB.out) | (with_reducible refine Kd.C_alloc ?_ _) | (with_reducible refine Kd.C_drewN ?_ _) | (with_reducible refine Kd.C_drew ?_))); (case side2 => exact HC0_0.out); rintro e w44 ⟨v596, rfl, ho0, hb⟩; refine ⟨_, rfl, ?_⟩; have HO597 := Aside0.mk (Kd.R_lower ho0 (below_size (bl_2 HB GE585 GE586))); replace BK585 := Aside0.mk (bb_ BK585 hb); replace BK586 := Aside0.mk (bb_ BK586 hb); replace HB := Aside0.mk (below_step (bl_2 HB GE585 GE586) hb); (try clear hb); (try clear hb2); (try clear hk); (try clear hi); (try clear ho0); obtain ⟨Ao45, co45, eo45⟩ := Kd.R_slice HO597.out; subst eo45) | ((with_reducible refine gate_callee (f := 40) rfl ?_); refine goesL_ (some 32) rfl rfl Try.func40 (by kernel_rfl) rfl #[.agg #[.slice Ao45 t595.length co45, .bool t598, .int .i64 t599]] rfl (ar_) ?_; (with_reducible refine (gafferref02_burnt.calls (fun k_ => some k_ = (.slice Ao45 t595.length co45 : Value).ownBlock) (.slice Ao45 t595.length co45) t595 t598 t599 t600 t603 t604 false w _ ?side1 ?side2 A18.out).mono ?_); (case side1 => repeat (first | (with_reducible first | exact HB.out | apply below_alloc | apply pw_below_drewN | apply below_drew1 | refine below_set ?_ GE585.out | refine below_set ?_ GE586.out) | exact HB.out)); (case side2 => exact Kd.R_tight rfl HO597.out); rintro e w46 ⟨v601, rfl, ho0, hb, hkp⟩; refine ⟨_, rfl, ?_⟩; replace BK585 := Aside0.mk (blk_kept (bk_ BK585) hkp (fun hs_ => (fun e_ => (Kd.R_ne HO597.out BK585.out (by decide)) e_) hs_)); replace BK586 := Aside0.mk (blk_kept (bk_ BK586) hkp (fun hs_ => (fun e_ => (Kd.R_ne HO597.out BK586.out (by decide)) e_) hs_)); have HO602 := Aside0.mk (Kd.R_mono (ok' := fun k_ => True) ho0 (fun k_ hk_ => trivial)); replace HB := Aside0.mk (hb); clear HO597; (try clear hb); (try clear hkp); (try clear ho0)) | ((with_reducible refine gate_dst (N := 8) rfl ?_); refine box_event ?hg (N := 8) ?hd (cs := #[.slice none 0 0, .bool false, .int .i64 0]) (t := 24) ?hr ?_; (case hd => rfl); (case hg => rfl); (case hr => first | (go_simp; done) | (go_simp; rfl)); intro gb606 hg w47 hbox hb; replace HO602 := Aside0.mk (Kd.R_below (by (with_reducible repeat (first | apply Kd.R_alloc | apply Kd.R_drewN | apply Kd.R_drew)); exact HO602.out) hb); have BK606 := Aside0.mk (hbox); have GW606 := Aside0.mk (bs_2 hg HB GE585 GE586); have GE606 := Aside0.mk (bs_2 hg HB GE585 GE586); replace HB := Aside0.mk (below_step (bl_2 HB GE585 GE586) hb); have NB585_606 := Aside0.mk (nb_ hg BK585); have NB606_585 := Aside0.mk (nc_ hg BK585); replace BK585 := Aside0.mk (bb_ BK585 hb); have NB586_606 := Aside0.mk (nb_ hg BK586); have NB606_586 := Aside0.mk (nc_ hg BK586); replace BK586 := Aside0.mk (bb_ BK586 hb); clear hb hbox hg; obtain ⟨Ao48, co48, eo48⟩ := Kd.R_slice HO602.out; subst eo48; have hnb49 := NB606_585.out; have hnc49 := NB585_606.out; have hnb50 := NB606_586.out; have hnc50 := NB586_606.out; obtain ⟨hcz51_0, hcz51_1, hcz51_2, hfz51_0, hfz51_1, hfz51_2⟩ := c3_ BK606; obtain ⟨hcz52_0, hcz52_1, hcz52_2, hfz52_0, hfz52_1, hfz52_2⟩ := c3_ BK586))
       refine bodyPost_ret (results_ct rfl _ _ gb586 24 #[.slice Ao48 t600.length co48, .bool t603, .int .i64 t604] (0, 0) _ rfl (bp_1 BK586 NB586_606) Try.underlying24 rfl (by kernel_rfl)) rfl ?_
       exact ⟨_, by first | rfl | (simp; done) | (simp [*]; done), by (with_reducible repeat (first | apply Kd.R_alloc | apply Kd.R_drewN | apply Kd.R_drew)); exact Kd.R_mono (Kd.R_far (p := ⟨gb586, 2, none⟩) (Kd.R_far (p := ⟨gb586, 1, none⟩) (Kd.R_far (p := ⟨gb586, 0, none⟩) (Kd.R_far (p := ⟨gb606, 2, none⟩) (Kd.R_far (p := ⟨gb606, 1, none⟩) (Kd.R_far (p := ⟨gb606, 0, none⟩) (Kd.R_types (Kd.R_types HO602.out BK606.out (by decide)) BK586.out (by decide)) (fun _ hk => hk.1.2) (.slice Ao48 t600.length co48)) (fun _ hk => hk.1.2) (.bool t603)) (fun _ hk => hk.1.2) (.int .i64 t604)) (fun _ hk => hk.2) (.slice Ao48 t600.length co48)) (fun _ hk => hk.2) (.bool t603)) (fun _ hk => hk.2) (.int .i64 t604)) (fun _ hk => trivial), bl_3 HB GE585 GE586 GE606⟩
     ·rw [if_neg c16] at H
      have c16b0 : (x6_13 == 0) = false := beq_eq_false_iff_ne.mpr c16
      have c16b1 : (x6_13 != 0) = true := bne_iff_ne.mpr c16
      replace H := Option.bind_eq_some_iff.mp H
      obtain ⟨⟨t589, t592, t593, t594⟩, A530, H⟩ := H
      replace H : (some (t589, t592, t593, t594)) = some (r1, r2, r3, r4) := H
      have A53 := Aside0.mk A530
      clear A530
      simp only [Option.some.injEq, Prod.mk.injEq] at H
      obtain ⟨rfl, rfl, rfl, rfl⟩ := H
      have hnb54 := NB585_586.out
      have hnc54 := NB586_585.out
      obtain ⟨hcz55_0, hcz55_1, hcz55_2, hfz55_0, hfz55_1, hfz55_2⟩ := c3_ BK585
      go_wp2_with (first | ((with_reducible refine gate_callee (f := 39) rfl ?_); refine goesL_ (some 26) rfl rfl Try.func39 (by kernel_rfl) rfl #[.agg #[.slice A0_0 l0_0.length c0_0, .bool a0_1, .int .i64 a0_2], .int .i64 x6_13] rfl (ar_) ?_; (with_reducible refine (gafferref02_bad.calls _ _ l0_0 a0_1 a0_2 x6_13 t589 t592 t593 t594 _ ?side1 ?side2 A53.out).mono ?_); (case side1 => repeat (first | exact (Kd.C_below HR0_0.out HB.out) | (with_reducible refine Kd.C_alloc ?_ _) | (with_reducible refine Kd.C_drewN ?_ _) | (with_reducible refine Kd.C_drew ?_))); (case side2 => exact HC0_0.out); rintro e w56 ⟨v590, rfl, ho0, hb⟩; refine ⟨_, rfl, ?_⟩; have HO591 := Aside0.mk (Kd.R_lower ho0 (below_size (bl_2 HB GE585 GE586))); replace BK585 := Aside0.mk (bb_ BK585 hb); replace BK586 := Aside0.mk (bb_ BK586 hb); replace HB := Aside0.mk (below_step (bl_2 HB GE585 GE586) hb); (try clear hb); (try clear hb2); (try clear hk); (try clear hi); (try clear ho0); obtain ⟨Ao57, co57, eo57⟩ := Kd.R_slice HO591.out; subst eo57; obtain ⟨hcz58_0, hcz58_1, hcz58_2, hfz58_0, hfz58_1, hfz58_2⟩ := c3_ BK586))
      refine bodyPost_ret (results_ct rfl _ _ gb586 24 #[.slice Ao57 t589.length co57, .bool t592, .int .i64 t593] (0, 0) _ rfl (bp_0 BK586) Try.underlying24 rfl (by kernel_rfl)) rfl ?_
      exact ⟨_, by first | rfl | (simp; done) | (simp [*]; done), by (with_reducible repeat (first | apply Kd.R_alloc | apply Kd.R_drewN | apply Kd.R_drew)); exact Kd.R_mono (Kd.R_far (p := ⟨gb586, 2, none⟩) (Kd.R_far (p := ⟨gb586, 1, none⟩) (Kd.R_far (p := ⟨gb586, 0, none⟩) (Kd.R_types HO591.out BK586.out (by decide)) (fun _ hk => hk.2) (.slice Ao57 t589.length co57)) (fun _ hk => hk.2) (.bool t592)) (fun _ hk => hk.2) (.int .i64 t593)) (fun _ hk => trivial), bl_2 HB GE585 GE586⟩

/-! ### disk_Cut: function 23 -/
def disk_Cut.f (k : Nat) (l0_0 : List (S35)) (a0_1 : Bool) (a0_2 : Int) (a1 : ByteArray) (a2 : Int) : Option ((List (S35)) × Bool × Int × Int) := (disk_done.f k l0_0 a0_1 a0_2 2 a1 (⟨#[]⟩ : ByteArray) (⟨#[]⟩ : ByteArray) a2).bind fun bt616 => (some (bt616.1, bt616.2.1, bt616.2.2.1, bt616.2.2.2))
theorem disk_Cut.mono : ∀ a0 a1 a2 a3 a4 k, LeO (disk_Cut.f k a0 a1 a2 a3 a4) (disk_Cut.f (k + 1) a0 a1 a2 a3 a4) := by
 intro a0 a1 a2 a3 a4 k
 unfold disk_Cut.f
 repeat' first
   | (with_reducible exact disk_done.mono _ _ _ _ _ _ _ _ _)
   | (with_reducible exact LeO.refl _)
   | (with_reducible exact LeO.none _)
   | (with_reducible refine LeO.ite ?_ ?_)
   | (with_reducible refine LeO.bind ?_ (fun _ => ?_))
   | exact disk_done.mono _ _ _ _ _ _ _ _ _
   | exact LeO.none _
   | refine LeO.ite ?_ ?_
   | refine LeO.bind ?_ (fun _ => ?_)
set_option maxHeartbeats 80000000 in
set_option maxRecDepth 100000 in
theorem disk_Cut.calls (k : Nat) (A0_0 : Option Addr) (c0_0 : Nat) (l0_0 : List (S35)) (a0_1 : Bool) (a0_2 : Int) (a1 : ByteArray) (a2 : Int) (r1 : List (S35)) (r2 : Bool) (r3 : Int) (r4 : Int) (w : World) (hr0_0 : Kd.C k35 w A0_0 l0_0.length l0_0) (hc0_0 : l0_0.length ≤ c0_0) (h : disk_Cut.f k l0_0 a0_1 a0_2 a1 a2 = some (r1, r2, r3, r4)) :
  Calls Try.prog 23 #[.agg #[.slice A0_0 l0_0.length c0_0, .bool a0_1, .int .i64 a0_2], .string a1, .int .i64 a2] w fun e w' => ∃ v0_ : Value, e = .returned (.tuple #[.agg #[v0_, .bool r2, .int .i64 r3], .int .i64 r4]) ∧ Kd.R k35 35 w' w.heap.size (fun _ => True) v0_ r1 ∧ Below w.heap.size w w' := by
 have hu24 := Try.underlying24
 have hu57 := Try.underlying57
 have HR0_0 := Aside0.mk hr0_0
 have HC0_0 := Aside0.mk hc0_0
 clear hr0_0 hc0_0
 have HB := Aside0.mk (Below.refl w.heap.size w)
 have H : ((disk_done.f k l0_0 a0_1 a0_2 2 a1 (⟨#[]⟩ : ByteArray) (⟨#[]⟩ : ByteArray) a2).bind fun bt616 => (some (bt616.1, bt616.2.1, bt616.2.2.1, bt616.2.2.2))) = some (r1, r2, r3, r4) := h
 clear h
 replace H := Option.bind_eq_some_iff.mp H
 obtain ⟨⟨t616, t619, t620, t621⟩, A40, H⟩ := H
 replace H : (some (t616, t619, t620, t621)) = some (r1, r2, r3, r4) := H
 have A4 := Aside0.mk A40
 clear A40
 simp only [Option.some.injEq, Prod.mk.injEq] at H
 obtain ⟨rfl, rfl, rfl, rfl⟩ := H
 go_enter Try.func23, Try.ntmps23
 go_wp2_with (first | ((with_reducible refine gate_dst (N := 3) rfl ?_); refine box_event ?hg (N := 3) ?hd (cs := #[.slice A0_0 l0_0.length c0_0, .bool a0_1, .int .i64 a0_2]) (t := 24) ?hr ?_; (case hd => rfl); (case hg => rfl); (case hr => first | (go_simp; done) | (go_simp; rfl)); intro gb614 hg w5 hbox hb; have BK614 := Aside0.mk (hbox); have GW614 := Aside0.mk (bs_0 hg HB); have GE614 := Aside0.mk (bs_0 hg HB); replace HB := Aside0.mk (below_step (bl_ HB) hb); clear hb hbox hg) | ((with_reducible refine gate_dst (N := 6) rfl ?_); refine box_event ?hg (N := 6) ?hd (cs := #[.slice none 0 0, .bool false, .int .i64 0]) (t := 24) ?hr ?_; (case hd => rfl); (case hg => rfl); (case hr => first | (go_simp; done) | (go_simp; rfl)); intro gb615 hg w6 hbox hb; have BK615 := Aside0.mk (hbox); have GW615 := Aside0.mk (bs_1 hg HB GE614); have GE615 := Aside0.mk (bs_1 hg HB GE614); replace HB := Aside0.mk (below_step (bl_1 HB GE614) hb); have NB614_615 := Aside0.mk (nb_ hg BK614); have NB615_614 := Aside0.mk (nc_ hg BK614); replace BK614 := Aside0.mk (bb_ BK614 hb); clear hb hbox hg; have hnb7 := NB614_615.out; have hnc7 := NB615_614.out; obtain ⟨hcz8_0, hcz8_1, hcz8_2, hfz8_0, hfz8_1, hfz8_2⟩ := c3_ BK614) | ((with_reducible refine gate_callee (f := 35) rfl ?_); refine goesL_ (some 12) rfl rfl Try.func35 (by kernel_rfl) rfl #[.agg #[.slice A0_0 l0_0.length c0_0, .bool a0_1, .int .i64 a0_2], .agg #[.int .u8 2, .string a1, .string (⟨#[]⟩ : ByteArray), .string (⟨#[]⟩ : ByteArray), .int .i64 a2]] rfl (ar_) ?_; (with_reducible refine (disk_done.calls k _ _ l0_0 a0_1 a0_2 2 a1 (⟨#[]⟩ : ByteArray) (⟨#[]⟩ : ByteArray) a2 t616 t619 t620 t621 _ ?side1 ?side2 A4.out).mono ?_); (case side1 => repeat (first | exact (Kd.C_below HR0_0.out HB.out) | (with_reducible refine Kd.C_alloc ?_ _) | (with_reducible refine Kd.C_drewN ?_ _) | (with_reducible refine Kd.C_drew ?_))); (case side2 => exact HC0_0.out); rintro e w9 ⟨v617, rfl, ho0, hb⟩; refine ⟨_, rfl, ?_⟩; have HO618 := Aside0.mk (Kd.R_lower ho0 (below_size (bl_2 HB GE614 GE615))); replace BK614 := Aside0.mk (bb_ BK614 hb); replace BK615 := Aside0.mk (bb_ BK615 hb); replace HB := Aside0.mk (below_step (bl_2 HB GE614 GE615) hb); (try clear hb); (try clear hb2); (try clear hk); (try clear hi); (try clear ho0); obtain ⟨Ao10, co10, eo10⟩ := Kd.R_slice HO618.out; subst eo10; obtain ⟨hcz11_0, hcz11_1, hcz11_2, hfz11_0, hfz11_1, hfz11_2⟩ := c3_ BK615))
 refine bodyPost_ret (results_ct rfl _ _ gb615 24 #[.slice Ao10 t616.length co10, .bool t619, .int .i64 t620] (0, 0) _ rfl (bp_0 BK615) Try.underlying24 rfl (by kernel_rfl)) rfl ?_
 exact ⟨_, by first | rfl | (simp; done) | (simp [*]; done), by (with_reducible repeat (first | apply Kd.R_alloc | apply Kd.R_drewN | apply Kd.R_drew)); exact Kd.R_mono (Kd.R_far (p := ⟨gb615, 2, none⟩) (Kd.R_far (p := ⟨gb615, 1, none⟩) (Kd.R_far (p := ⟨gb615, 0, none⟩) (Kd.R_types HO618.out BK615.out (by decide)) (fun _ hk => hk.2) (.slice Ao10 t616.length co10)) (fun _ hk => hk.2) (.bool t619)) (fun _ hk => hk.2) (.int .i64 t620)) (fun _ hk => trivial), bl_2 HB GE614 GE615⟩

end Go.Proofs.Ytpdacpopkegecaa.PA
