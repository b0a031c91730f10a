-- Written for this claim by a program of this session. Lean checks it.
import Derived.Test.YtpdacpopkegecaaPAx0
import Derived.Test.YtpdacpopkegecaaPAx9
namespace Go.Proofs.Ytpdacpopkegecaa.PA
open Go.RowKit Go.Proofs.YtpdacpopkegecaaW.PrintWords Go.Proofs.YtpdacpopkegecaaW.PrintLast Go.Proofs.YtpdacpopkegecaaW.PrintMore Go.Proofs.Ytpdacpopkegecaa.Sh Go.Proofs.Ytpdacpopkegecaa.Op
attribute [local go_sem] max2_int min2_int max_two min_two max_three min_three max_four min_four   -- for this text's walks alone
set_option linter.unusedVariables false
set_option linter.unusedSimpArgs false

/-! ### gafferref02_Add: function 21 -/
mutual
def gafferref02_Add.j0 : Nat → ByteArray → ByteArray → Int → Int → Bool → List (S35) → Bool → Int → Option ((List (S35)) × Bool × Int × Int)
 | 0, _, _, _, _, _, _, _, _ => none
 | k + 1, x1, x2, x8, x9, x24, x561000, x561001, x561002 => if x24 = true then (gafferref02_Add.j1 k x1 x2 5 x9 x561000 x561001 x561002) else (gafferref02_Add.j1 k x1 x2 x8 x9 x561000 x561001 x561002)
def gafferref02_Add.j1 : Nat → ByteArray → ByteArray → Int → Int → List (S35) → Bool → Int → Option ((List (S35)) × Bool × Int × Int)
 | 0, _, _, _, _, _, _, _ => none
 | k + 1, x1, x2, x8, x9, x561000, x561001, x561002 => if x8 = 0 then (if x9 < 0 then (gafferref02_Add.j2 k x1 x2 x8 x9 (decide ((x561000.length : Int) ≥ 4096)) x561000 x561001 x561002) else (gafferref02_Add.j2 k x1 x2 x8 x9 false x561000 x561001 x561002)) else (gafferref02_Add.j2 k x1 x2 x8 x9 false x561000 x561001 x561002)
def gafferref02_Add.j2 : Nat → ByteArray → ByteArray → Int → Int → Bool → List (S35) → Bool → Int → Option ((List (S35)) × Bool × Int × Int)
 | 0, _, _, _, _, _, _, _, _ => none
 | k + 1, x1, x2, x8, x9, x36, x561000, x561001, x561002 => if x36 = true then (gafferref02_Add.j3 k x1 x2 11 x9 x561000 x561001 x561002) else (gafferref02_Add.j3 k x1 x2 x8 x9 x561000 x561001 x561002)
def gafferref02_Add.j3 : Nat → ByteArray → ByteArray → Int → Int → List (S35) → Bool → Int → Option ((List (S35)) × Bool × Int × Int)
 | 0, _, _, _, _, _, _, _ => none
 | k + 1, x1, x2, x8, x9, x561000, x561001, x561002 => if x8 = 0 then (if x9 ≥ 0 then (if 0 ≤ x9 then (if x9 < (x561000.length : Int) then (gafferref02_Add.j4 k x2 x561000 x561001 x561002 ((rd_T35 x561000 x9).f0) ((rd_T35 x561000 x9).f1) ((rd_T35 x561000 x9).f2)) else (none)) else (none)) else (gafferref02_Add.j4 k x2 x561000 x561001 x561002 x1 (⟨#[]⟩ : ByteArray) 0)) else ((gafferref02_bad.f x561000 x561001 x561002 x8).bind fun bt565 => (some (bt565.1, bt565.2.1, bt565.2.2.1, bt565.2.2.2)))
def gafferref02_Add.j4 : Nat → ByteArray → List (S35) → Bool → Int → ByteArray → ByteArray → Int → Option ((List (S35)) × Bool × Int × Int)
 | 0, _, _, _, _, _, _, _ => none
 | k + 1, x2, x561000, x561001, x561002, x572000, x572001, x572002 => if x572001.size + x2.size ≤ 9223372036854775807 then ((gafferref02_with.f k x561000 x561001 x561002 x572000 (x572001 ++ x2) x572002).bind fun bt573 => ((gafferref02_burnt.f bt573.1 bt573.2.1 bt573.2.2).bind fun bt578 => (if bt578.2.2.2 = true then (some (bt578.1, bt578.2.1, bt578.2.2.1, 0)) else (some (bt578.1, bt578.2.1, bt578.2.2.1, 8))))) else (none)
end
def gafferref02_Add.f (k : Nat) (l0_0 : List (S35)) (a0_1 : Bool) (a0_2 : Int) (a1 : ByteArray) (a2 : ByteArray) : Option ((List (S35)) × Bool × Int × Int) := (gafferref02_ready.f k l0_0 a0_1 a0_2).bind fun t562 => ((gafferref02_find.f k l0_0 a0_1 a0_2 a1).bind fun t563 => (if t562 = 0 then ((gafferref02_name.f a1).bind fun t564 => (gafferref02_Add.j0 k a1 a2 t562 t563 (!t564) l0_0 a0_1 a0_2)) else (gafferref02_Add.j0 k a1 a2 t562 t563 false l0_0 a0_1 a0_2)))
theorem gafferref02_Add.mono_l : ∀ k, (∀ y0 y1 y2 y3 y4 y5 y6 y7, LeO (gafferref02_Add.j0 k y0 y1 y2 y3 y4 y5 y6 y7) (gafferref02_Add.j0 (k + 1) y0 y1 y2 y3 y4 y5 y6 y7)) ∧ (∀ y0 y1 y2 y3 y4 y5 y6, LeO (gafferref02_Add.j1 k y0 y1 y2 y3 y4 y5 y6) (gafferref02_Add.j1 (k + 1) y0 y1 y2 y3 y4 y5 y6)) ∧ (∀ y0 y1 y2 y3 y4 y5 y6 y7, LeO (gafferref02_Add.j2 k y0 y1 y2 y3 y4 y5 y6 y7) (gafferref02_Add.j2 (k + 1) y0 y1 y2 y3 y4 y5 y6 y7)) ∧ (∀ y0 y1 y2 y3 y4 y5 y6, LeO (gafferref02_Add.j3 k y0 y1 y2 y3 y4 y5 y6) (gafferref02_Add.j3 (k + 1) y0 y1 y2 y3 y4 y5 y6)) ∧ (∀ y0 y1 y2 y3 y4 y5 y6, LeO (gafferref02_Add.j4 k y0 y1 y2 y3 y4 y5 y6) (gafferref02_Add.j4 (k + 1) y0 y1 y2 y3 y4 y5 y6))
 | 0 => ⟨fun _ _ _ _ _ _ _ _ r h => by simp [gafferref02_Add.j0] at h, fun _ _ _ _ _ _ _ r h => by simp [gafferref02_Add.j1] at h, fun _ _ _ _ _ _ _ _ r h => by simp [gafferref02_Add.j2] at h, fun _ _ _ _ _ _ _ r h => by simp [gafferref02_Add.j3] at h, fun _ _ _ _ _ _ _ r h => by simp [gafferref02_Add.j4] at h⟩
 | k + 1 => by
  obtain ⟨ih0, ih1, ih2, ih3, ih4⟩ := gafferref02_Add.mono_l k
  refine ⟨?_, ?_, ?_, ?_, ?_⟩
  ·intro y0 y1 y2 y3 y4 y5 y6 y7
   unfold gafferref02_Add.j0
   repeat' first
   | (with_reducible exact ih0 _ _ _ _ _ _ _ _)
   | (with_reducible exact ih1 _ _ _ _ _ _ _)
   | (with_reducible exact ih2 _ _ _ _ _ _ _ _)
   | (with_reducible exact ih3 _ _ _ _ _ _ _)
   | (with_reducible exact ih4 _ _ _ _ _ _ _)
   | (with_reducible exact gafferref02_find.mono _ _ _ _ _)
   | (with_reducible exact gafferref02_ready.mono _ _ _ _)
   | (with_reducible exact gafferref02_with.mono _ _ _ _ _ _ _)
   | (with_reducible exact LeO.refl _)
   | (with_reducible exact LeO.none _)
   | (with_reducible refine LeO.ite ?_ ?_)
   | (with_reducible refine LeO.bind ?_ (fun _ => ?_))
   | exact ih0 _ _ _ _ _ _ _ _
   | exact ih1 _ _ _ _ _ _ _
   | exact ih2 _ _ _ _ _ _ _ _
   | exact ih3 _ _ _ _ _ _ _
   | exact ih4 _ _ _ _ _ _ _
   | exact gafferref02_find.mono _ _ _ _ _
   | exact gafferref02_ready.mono _ _ _ _
   | exact gafferref02_with.mono _ _ _ _ _ _ _
   | exact LeO.none _
   | refine LeO.ite ?_ ?_
   | refine LeO.bind ?_ (fun _ => ?_)
  ·intro y0 y1 y2 y3 y4 y5 y6
   unfold gafferref02_Add.j1
   repeat' first
   | (with_reducible exact ih0 _ _ _ _ _ _ _ _)
   | (with_reducible exact ih1 _ _ _ _ _ _ _)
   | (with_reducible exact ih2 _ _ _ _ _ _ _ _)
   | (with_reducible exact ih3 _ _ _ _ _ _ _)
   | (with_reducible exact ih4 _ _ _ _ _ _ _)
   | (with_reducible exact gafferref02_find.mono _ _ _ _ _)
   | (with_reducible exact gafferref02_ready.mono _ _ _ _)
   | (with_reducible exact gafferref02_with.mono _ _ _ _ _ _ _)
   | (with_reducible exact LeO.refl _)
   | (with_reducible exact LeO.none _)
   | (with_reducible refine LeO.ite ?_ ?_)
   | (with_reducible refine LeO.bind ?_ (fun _ => ?_))
   | exact ih0 _ _ _ _ _ _ _ _
   | exact ih1 _ _ _ _ _ _ _
   | exact ih2 _ _ _ _ _ _ _ _
   | exact ih3 _ _ _ _ _ _ _
   | exact ih4 _ _ _ _ _ _ _
   | exact gafferref02_find.mono _ _ _ _ _
   | exact gafferref02_ready.mono _ _ _ _
   | exact gafferref02_with.mono _ _ _ _ _ _ _
   | exact LeO.none _
   | refine LeO.ite ?_ ?_
   | refine LeO.bind ?_ (fun _ => ?_)
  ·intro y0 y1 y2 y3 y4 y5 y6 y7
   unfold gafferref02_Add.j2
   repeat' first
   | (with_reducible exact ih0 _ _ _ _ _ _ _ _)
   | (with_reducible exact ih1 _ _ _ _ _ _ _)
   | (with_reducible exact ih2 _ _ _ _ _ _ _ _)
   | (with_reducible exact ih3 _ _ _ _ _ _ _)
   | (with_reducible exact ih4 _ _ _ _ _ _ _)
   | (with_reducible exact gafferref02_find.mono _ _ _ _ _)
   | (with_reducible exact gafferref02_ready.mono _ _ _ _)
   | (with_reducible exact gafferref02_with.mono _ _ _ _ _ _ _)
   | (with_reducible exact LeO.refl _)
   | (with_reducible exact LeO.none _)
   | (with_reducible refine LeO.ite ?_ ?_)
   | (with_reducible refine LeO.bind ?_ (fun _ => ?_))
   | exact ih0 _ _ _ _ _ _ _ _
   | exact ih1 _ _ _ _ _ _ _
   | exact ih2 _ _ _ _ _ _ _ _
   | exact ih3 _ _ _ _ _ _ _
   | exact ih4 _ _ _ _ _ _ _
   | exact gafferref02_find.mono _ _ _ _ _
   | exact gafferref02_ready.mono _ _ _ _
   | exact gafferref02_with.mono _ _ _ _ _ _ _
   | exact LeO.none _
   | refine LeO.ite ?_ ?_
   | refine LeO.bind ?_ (fun _ => ?_)
  ·intro y0 y1 y2 y3 y4 y5 y6
   unfold gafferref02_Add.j3
   repeat' first
   | (with_reducible exact ih0 _ _ _ _ _ _ _ _)
   | (with_reducible exact ih1 _ _ _ _ _ _ _)
   | (with_reducible exact ih2 _ _ _ _ _ _ _ _)
   | (with_reducible exact ih3 _ _ _ _ _ _ _)
   | (with_reducible exact ih4 _ _ _ _ _ _ _)
   | (with_reducible exact gafferref02_find.mono _ _ _ _ _)
   | (with_reducible exact gafferref02_ready.mono _ _ _ _)
   | (with_reducible exact gafferref02_with.mono _ _ _ _ _ _ _)
   | (with_reducible exact LeO.refl _)
   | (with_reducible exact LeO.none _)
   | (with_reducible refine LeO.ite ?_ ?_)
   | (with_reducible refine LeO.bind ?_ (fun _ => ?_))
   | exact ih0 _ _ _ _ _ _ _ _
   | exact ih1 _ _ _ _ _ _ _
   | exact ih2 _ _ _ _ _ _ _ _
   | exact ih3 _ _ _ _ _ _ _
   | exact ih4 _ _ _ _ _ _ _
   | exact gafferref02_find.mono _ _ _ _ _
   | exact gafferref02_ready.mono _ _ _ _
   | exact gafferref02_with.mono _ _ _ _ _ _ _
   | exact LeO.none _
   | refine LeO.ite ?_ ?_
   | refine LeO.bind ?_ (fun _ => ?_)
  ·intro y0 y1 y2 y3 y4 y5 y6
   unfold gafferref02_Add.j4
   repeat' first
   | (with_reducible exact ih0 _ _ _ _ _ _ _ _)
   | (with_reducible exact ih1 _ _ _ _ _ _ _)
   | (with_reducible exact ih2 _ _ _ _ _ _ _ _)
   | (with_reducible exact ih3 _ _ _ _ _ _ _)
   | (with_reducible exact ih4 _ _ _ _ _ _ _)
   | (with_reducible exact gafferref02_find.mono _ _ _ _ _)
   | (with_reducible exact gafferref02_ready.mono _ _ _ _)
   | (with_reducible exact gafferref02_with.mono _ _ _ _ _ _ _)
   | (with_reducible exact LeO.refl _)
   | (with_reducible exact LeO.none _)
   | (with_reducible refine LeO.ite ?_ ?_)
   | (with_reducible refine LeO.bind ?_ (fun _ => ?_))
   | exact ih0 _ _ _ _ _ _ _ _
   | exact ih1 _ _ _ _ _ _ _
   | exact ih2 _ _ _ _ _ _ _ _
   | exact ih3 _ _ _ _ _ _ _
   | exact ih4 _ _ _ _ _ _ _
   | exact gafferref02_find.mono _ _ _ _ _
   | exact gafferref02_ready.mono _ _ _ _
   | exact gafferref02_with.mono _ _ _ _ _ _ _
   | exact LeO.none _
   | refine LeO.ite ?_ ?_
   | refine LeO.bind ?_ (fun _ => ?_)
theorem gafferref02_Add.mono : ∀ a0 a1 a2 a3 a4 k, LeO (gafferref02_Add.f k a0 a1 a2 a3 a4) (gafferref02_Add.f (k + 1) a0 a1 a2 a3 a4) := by
 intro a0 a1 a2 a3 a4 k
 obtain ⟨ih0, ih1, ih2, ih3, ih4⟩ := gafferref02_Add.mono_l k
 unfold gafferref02_Add.f
 repeat' first
   | (with_reducible exact ih0 _ _ _ _ _ _ _ _)
   | (with_reducible exact ih1 _ _ _ _ _ _ _)
   | (with_reducible exact ih2 _ _ _ _ _ _ _ _)
   | (with_reducible exact ih3 _ _ _ _ _ _ _)
   | (with_reducible exact ih4 _ _ _ _ _ _ _)
   | (with_reducible exact gafferref02_find.mono _ _ _ _ _)
   | (with_reducible exact gafferref02_ready.mono _ _ _ _)
   | (with_reducible exact gafferref02_with.mono _ _ _ _ _ _ _)
   | (with_reducible exact LeO.refl _)
   | (with_reducible exact LeO.none _)
   | (with_reducible refine LeO.ite ?_ ?_)
   | (with_reducible refine LeO.bind ?_ (fun _ => ?_))
   | exact ih0 _ _ _ _ _ _ _ _
   | exact ih1 _ _ _ _ _ _ _
   | exact ih2 _ _ _ _ _ _ _ _
   | exact ih3 _ _ _ _ _ _ _
   | exact ih4 _ _ _ _ _ _ _
   | exact gafferref02_find.mono _ _ _ _ _
   | exact gafferref02_ready.mono _ _ _ _
   | exact gafferref02_with.mono _ _ _ _ _ _ _
   | exact LeO.none _
   | refine LeO.ite ?_ ?_
   | refine LeO.bind ?_ (fun _ => ?_)
set_option maxHeartbeats 80000000 in
set_option maxRecDepth 100000 in
theorem gafferref02_Add.calls (k : Nat) (A0_0 : Option Addr) (c0_0 : Nat) (l0_0 : List (S35)) (a0_1 : Bool) (a0_2 : Int) (a1 : ByteArray) (a2 : ByteArray) (r1 : List (S35)) (r2 : Bool) (r3 : Int) (r4 : Int) (w : World) (hr0_0 : Kd.C k35 w A0_0 l0_0.length l0_0) (hc0_0 : l0_0.length ≤ c0_0) (h : gafferref02_Add.f k l0_0 a0_1 a0_2 a1 a2 = some (r1, r2, r3, r4)) :
  Calls Try.prog 21 #[.agg #[.slice A0_0 l0_0.length c0_0, .bool a0_1, .int .i64 a0_2], .string a1, .string a2] w fun e w' => ∃ v0_ : Value, e = .returned (.tuple #[.agg #[v0_, .bool r2, .int .i64 r3], .int .i64 r4]) ∧ Kd.R k35 35 w' w.heap.size (fun _ => True) v0_ r1 ∧ Below w.heap.size w w' := by
 have hu24 := Try.underlying24
 have hu35 := Try.underlying35
 have HR0_0 := Aside0.mk hr0_0
 have HC0_0 := Aside0.mk hc0_0
 clear hr0_0 hc0_0
 have HB := Aside0.mk (Below.refl w.heap.size w)
 have H : ((gafferref02_ready.f k l0_0 a0_1 a0_2).bind fun t562 => ((gafferref02_find.f k l0_0 a0_1 a0_2 a1).bind fun t563 => (if t562 = 0 then ((gafferref02_name.f a1).bind fun t564 => (gafferref02_Add.j0 k a1 a2 t562 t563 (!t564) l0_0 a0_1 a0_2)) else (gafferref02_Add.j0 k a1 a2 t562 t563 false l0_0 a0_1 a0_2)))) = some (r1, r2, r3, r4) := h
 clear h
 replace H := Option.bind_eq_some_iff.mp H
 obtain ⟨t562, A40, H⟩ := H
 replace H : ((gafferref02_find.f k l0_0 a0_1 a0_2 a1).bind fun t563 => (if t562 = 0 then ((gafferref02_name.f a1).bind fun t564 => (gafferref02_Add.j0 k a1 a2 t562 t563 (!t564) l0_0 a0_1 a0_2)) else (gafferref02_Add.j0 k a1 a2 t562 t563 false l0_0 a0_1 a0_2))) = some (r1, r2, r3, r4) := H
 have A4 := Aside0.mk A40
 clear A40
 replace H := Option.bind_eq_some_iff.mp H
 obtain ⟨t563, A50, H⟩ := H
 replace H : (if t562 = 0 then ((gafferref02_name.f a1).bind fun t564 => (gafferref02_Add.j0 k a1 a2 t562 t563 (!t564) l0_0 a0_1 a0_2)) else (gafferref02_Add.j0 k a1 a2 t562 t563 false l0_0 a0_1 a0_2)) = some (r1, r2, r3, r4) := H
 have A5 := Aside0.mk A50
 clear A50
 have HC6 := Aside0.mk H
 clear H
 go_enter Try.func21, Try.ntmps21
 go_upto_region 3 with (first | ((with_reducible refine gate_dst (N := 3) rfl ?_); (try (refine gate_guard (by rfl) ?_; dsimp only)); refine box_event ?hg (N := 3) ?hd (cs := #[.slice A0_0 l0_0.length c0_0, .bool a0_1, .int .i64 a0_2]) (t := 24) ?hr ?_; (case hd => rfl); (case hg => rfl); (case hr => first | (go_simp; done) | (go_simp; rfl)); intro gb560 hg w7 hbox hb; have BK560 := Aside0.mk (hbox); have GW560 := Aside0.mk (bs_0 hg HB); have GE560 := Aside0.mk (bs_0 hg HB); replace HB := Aside0.mk (below_step (bl_ HB) hb); clear hb hbox hg) | ((with_reducible refine gate_dst (N := 6) rfl ?_); (try (refine gate_guard (by rfl) ?_; dsimp only)); refine box_event ?hg (N := 6) ?hd (cs := #[.slice none 0 0, .bool false, .int .i64 0]) (t := 24) ?hr ?_; (case hd => rfl); (case hg => rfl); (case hr => first | (go_simp; done) | (go_simp; rfl)); intro gb561 hg w8 hbox hb; have BK561 := Aside0.mk (hbox); have GW561 := Aside0.mk (bs_1 hg HB GE560); have GE561 := Aside0.mk (bs_1 hg HB GE560); replace HB := Aside0.mk (below_step (bl_1 HB GE560) hb); have NB560_561 := Aside0.mk (nb_ hg BK560); have NB561_560 := Aside0.mk (nc_ hg BK560); replace BK560 := Aside0.mk (bb_ BK560 hb); clear hb hbox hg; have hnb9 := NB560_561.out; have hnc9 := NB561_560.out; obtain ⟨hcz10_0, hcz10_1, hcz10_2, hfz10_0, hfz10_1, hfz10_2⟩ := c3_ BK560) | ((with_reducible refine gate_callee (f := 36) rfl ?_); refine goesL_ (some 14) rfl rfl Try.func36 (by kernel_rfl) rfl #[.agg #[.slice A0_0 l0_0.length c0_0, .bool a0_1, .int .i64 a0_2]] rfl (ar_) ?_; (with_reducible refine (gafferref02_ready.calls k _ _ l0_0 a0_1 a0_2 t562 _ ?side1 ?side2 A4.out).mono ?_); (case side1 => repeat (first | exact (Kd.C_below HR0_0.out HB.out) | (with_reducible refine Kd.C_alloc ?_ _) | (with_reducible refine Kd.C_drewN ?_ _) | (with_reducible refine Kd.C_drew ?_))); (case side2 => exact HC0_0.out); rintro e w11 ⟨rfl, hb⟩; refine ⟨_, rfl, ?_⟩; replace BK560 := Aside0.mk (bb_ BK560 hb); replace BK561 := Aside0.mk (bb_ BK561 hb); replace HB := Aside0.mk (below_step (bl_2 HB GE560 GE561) hb); (try clear hb); (try clear hb2); (try clear hk); (try clear hi); obtain ⟨hcz12_0, hcz12_1, hcz12_2, hfz12_0, hfz12_1, hfz12_2⟩ := c3_ BK560) | ((with_reducible refine gate_callee (f := 37) rfl ?_); refine goesL_ (some 17) rfl rfl Try.func37 (by kernel_rfl) rfl #[.agg #[.slice A0_0 l0_0.length c0_0, .bool a0_1, .int .i64 a0_2], .string a1] rfl (ar_) ?_; (with_reducible refine (gafferref02_find.calls k _ _ l0_0 a0_1 a0_2 a1 t563 _ ?side1 ?side2 A5.out).mono ?_); (case side1 => repeat (first | exact (Kd.C_below HR0_0.out HB.out) | (with_reducible refine Kd.C_alloc ?_ _) | (with_reducible refine Kd.C_drewN ?_ _) | (with_reducible refine Kd.C_drew ?_))); (case side2 => exact HC0_0.out); rintro e w13 ⟨rfl, hb⟩; refine ⟨_, rfl, ?_⟩; replace BK560 := Aside0.mk (bb_ BK560 hb); replace BK561 := Aside0.mk (bb_ BK561 hb); replace HB := Aside0.mk (below_step (bl_2 HB GE560 GE561) hb); (try clear hb); (try clear hb2); (try clear hk); (try clear hi)))
 (try simp only [Act.put, List.setIfInBounds_toArray, List.set_cons_zero, List.set_cons_succ])
 go_cut [24] (fun v24 wc => ∃ (kq : Nat) (x24_5 : Bool), v24 = .bool x24_5 ∧ Aside0 (gafferref02_Add.j0 kq a1 a2 t562 t563 x24_5 l0_0 a0_1 a0_2 = some (r1, r2, r3, r4)) ∧ Aside0 (kq ≤ k) ∧ Aside0 (wc.heap[gb560]? = some (.cells #[(.slice A0_0 l0_0.length c0_0), .bool a0_1, .int .i64 a0_2] 24 (0, 0))) ∧ Aside0 (wc.heap[gb561]? = some (.cells #[(.slice none 0 0), .bool false, .int .i64 0] 24 (0, 0))) ∧ Aside0 (Below w.heap.size w wc))
 case first =>
  have H := HC6.out
  clear HC6
  by_cases c14 : t562 = 0
  ·rw [if_pos c14] at H
   have c14b0 : (t562 == 0) = true := beq_iff_eq.mpr c14
   have c14b1 : (t562 != 0) = false := bne_eq_false_iff_eq.mpr c14
   clear c14
   (first | rw [c14b0] | (simp only [i64_w, i32_w]; rw [c14b0]) | skip)
   replace H := Option.bind_eq_some_iff.mp H
   obtain ⟨t564, A150, H⟩ := H
   replace H : (gafferref02_Add.j0 k a1 a2 t562 t563 (!t564) l0_0 a0_1 a0_2) = some (r1, r2, r3, r4) := H
   have A15 := Aside0.mk A150
   clear A150
   have H' := Aside0.mk H
   clear H
   go_wp2_with (first | (go_at_call 38; (with_reducible refine (gafferref02_name.calls a1 t564 _ A15.out).mono ?_); rintro e w' ⟨rfl, ⟨nd, rfl⟩⟩))
   go_meet
   case rel => exact ⟨_, (!t564), (by first | rfl | (simp; done) | (simp [*]; done)), H', ⟨by first | omega | exact Nat.le_refl _⟩, ⟨bk_ BK560⟩, ⟨bk_ BK561⟩, ⟨bl_2 HB GE560 GE561⟩⟩
  ·rw [if_neg c14] at H
   have c14b0 : (t562 == 0) = false := beq_eq_false_iff_ne.mpr c14
   have c14b1 : (t562 != 0) = true := bne_iff_ne.mpr c14
   (first | rw [c14b0] | (simp only [i64_w, i32_w]; rw [c14b0]) | skip)
   have H' := Aside0.mk H
   clear H
   go_wp2
   go_meet
   case rel => exact ⟨_, (false), (by first | rfl | (simp; done) | (simp [*]; done)), H', ⟨by first | omega | exact Nat.le_refl _⟩, ⟨bk_ BK560⟩, ⟨bk_ BK561⟩, ⟨bl_2 HB GE560 GE561⟩⟩
 case rest =>
  clear HC6
  try clear c1
  try clear c2
  try clear p2
  try clear c3
  try clear c9
  try clear c14
  try clear c14b0
  try clear c14b1
  try clear hcz10_0
  try clear hcz10_1
  try clear hcz10_2
  try clear hcz12_0
  try clear hcz12_1
  try clear hcz12_2
  try clear hfz10_0
  try clear hfz10_1
  try clear hfz10_2
  try clear hfz12_0
  try clear hfz12_1
  try clear hfz12_2
  obtain ⟨kq, x24_5, rfl, HA, HJ5, BK560, BK561, HB⟩ := hcut
  cases kq with
  | zero => exact absurd HA.out (by simp [gafferref02_Add.j0])
  | succ kj5 =>
   have H := HA.out
   clear HA
   simp only [gafferref02_Add.j0] at H
   have HC16 := Aside0.mk H
   clear H
   go_upto_if 24 with (fail)
   go_cut [8] (fun v8 wc => ∃ (kq : Nat) (x8_15 : Int), v8 = .int .i64 x8_15 ∧ Aside0 (gafferref02_Add.j1 kq a1 a2 x8_15 t563 l0_0 a0_1 a0_2 = some (r1, r2, r3, r4)) ∧ Aside0 (kq ≤ kj5) ∧ Aside0 (wc.heap[gb560]? = some (.cells #[(.slice A0_0 l0_0.length c0_0), .bool a0_1, .int .i64 a0_2] 24 (0, 0))) ∧ Aside0 (wc.heap[gb561]? = some (.cells #[(.slice none 0 0), .bool false, .int .i64 0] 24 (0, 0))) ∧ Aside0 (Below w.heap.size w wc))
   case first =>
    have H := HC16.out
    clear HC16
    by_cases c17 : x24_5 = true
    ·subst c17
     have H1 : (gafferref02_Add.j1 kj5 a1 a2 5 t563 l0_0 a0_1 a0_2) = some (r1, r2, r3, r4) := by rw [if_pos rfl] at H; exact H
     clear H
     have H := H1
     clear H1
     have H' := Aside0.mk H
     clear H
     go_wp2
     go_meet
     case rel => exact ⟨_, (5), (by first | rfl | (simp; done) | (simp [*]; done)), H', ⟨by have := HJ5.out; first | omega | exact Nat.le_refl _⟩, ⟨bk_ BK560⟩, ⟨bk_ BK561⟩, ⟨bl_2 HB GE560 GE561⟩⟩
    ·replace c17 := Bool.eq_false_iff.mpr c17
     subst c17
     have H1 : (gafferref02_Add.j1 kj5 a1 a2 t562 t563 l0_0 a0_1 a0_2) = some (r1, r2, r3, r4) := by rw [if_neg (show ¬ (false = true) by decide)] at H; exact H
     clear H
     have H := H1
     clear H1
     have H' := Aside0.mk H
     clear H
     go_wp2
     go_meet
     case rel => exact ⟨_, (t562), (by first | rfl | (simp; done) | (simp [*]; done)), H', ⟨by have := HJ5.out; first | omega | exact Nat.le_refl _⟩, ⟨bk_ BK560⟩, ⟨bk_ BK561⟩, ⟨bl_2 HB GE560 GE561⟩⟩
   case rest =>
    clear HC16
    try clear c1
    try clear c2
    try clear p2
    try clear c3
    try clear c9
    try clear c14
    try clear c14b0
    try clear c14b1
    try clear c17
    try clear hcz10_0
    try clear hcz10_1
    try clear hcz10_2
    try clear hcz12_0
    try clear hcz12_1
    try clear hcz12_2
    try clear hfz10_0
    try clear hfz10_1
    try clear hfz10_2
    try clear hfz12_0
    try clear hfz12_1
    try clear hfz12_2
    try clear p2
    obtain ⟨kq, x8_15, rfl, HA, HJ15, BK560, BK561, HB⟩ := hcut
    cases kq with
    | zero => exact absurd HA.out (by simp [gafferref02_Add.j1])
    | succ kj15 =>
     have H := HA.out
     clear HA
     simp only [gafferref02_Add.j1] at H
     have HC18 := Aside0.mk H
     clear H
     go_upto_region 5 with (fail)
     go_cut [36] (fun v36 wc => ∃ (kq : Nat) (x36_17 : Bool), v36 = .bool x36_17 ∧ Aside0 (gafferref02_Add.j2 kq a1 a2 x8_15 t563 x36_17 l0_0 a0_1 a0_2 = some (r1, r2, r3, r4)) ∧ Aside0 (kq ≤ kj15) ∧ Aside0 (wc.heap[gb560]? = some (.cells #[(.slice A0_0 l0_0.length c0_0), .bool a0_1, .int .i64 a0_2] 24 (0, 0))) ∧ Aside0 (wc.heap[gb561]? = some (.cells #[(.slice none 0 0), .bool false, .int .i64 0] 24 (0, 0))) ∧ Aside0 (Below w.heap.size w wc))
     case first =>
      have H := HC18.out
      clear HC18
      by_cases c19 : x8_15 = 0
      ·rw [if_pos c19] at H
       have c19b0 : (x8_15 == 0) = true := beq_iff_eq.mpr c19
       have c19b1 : (x8_15 != 0) = false := bne_eq_false_iff_eq.mpr c19
       clear c19
       (first | rw [c19b0] | (simp only [i64_w, i32_w]; rw [c19b0]) | skip)
       by_cases c20 : t563 < 0
       ·rw [if_pos c20] at H
        have c20b0 : decide (t563 < 0) = true := decide_eq_true c20
        clear c20
        have H' := Aside0.mk H
        clear H
        have hnb21 := NB560_561.out
        have hnc21 := NB561_560.out
        obtain ⟨hcz22_0, hcz22_1, hcz22_2, hfz22_0, hfz22_1, hfz22_2⟩ := c3_ BK560
        go_wp2
        go_meet
        case rel => exact ⟨_, (decide ((l0_0.length : Int) ≥ 4096)), (by first | rfl | (simp; done) | (simp [*]; done)), H', ⟨by have := HJ5.out; have := HJ15.out; first | omega | exact Nat.le_refl _⟩, ⟨bk_ BK560⟩, ⟨bk_ BK561⟩, ⟨bl_2 HB GE560 GE561⟩⟩
       ·rw [if_neg c20] at H
        have c20b0 : decide (t563 < 0) = false := decide_eq_false c20
        clear c20
        have H' := Aside0.mk H
        clear H
        go_wp2
        go_meet
        case rel => exact ⟨_, (false), (by first | rfl | (simp; done) | (simp [*]; done)), H', ⟨by have := HJ5.out; have := HJ15.out; first | omega | exact Nat.le_refl _⟩, ⟨bk_ BK560⟩, ⟨bk_ BK561⟩, ⟨bl_2 HB GE560 GE561⟩⟩
      ·rw [if_neg c19] at H
       have c19b0 : (x8_15 == 0) = false := beq_eq_false_iff_ne.mpr c19
       have c19b1 : (x8_15 != 0) = true := bne_iff_ne.mpr c19
       (first | rw [c19b0] | (simp only [i64_w, i32_w]; rw [c19b0]) | skip)
       have H' := Aside0.mk H
       clear H
       go_wp2
       go_meet
       case rel => exact ⟨_, (false), (by first | rfl | (simp; done) | (simp [*]; done)), H', ⟨by have := HJ5.out; have := HJ15.out; first | omega | exact Nat.le_refl _⟩, ⟨bk_ BK560⟩, ⟨bk_ BK561⟩, ⟨bl_2 HB GE560 GE561⟩⟩
     case rest =>
      clear HC18
      try clear c1
      try clear c2
      try clear p2
      try clear c3
      try clear c9
      try clear c14
      try clear c14b0
      try clear c14b1
      try clear c17
      try clear c19
      try clear c19b0
      try clear c19b1
      try clear c20
      try clear c20b0
      try clear c21
      try clear hcz10_0
      try clear hcz10_1
      try clear hcz10_2
      try clear hcz12_0
      try clear hcz12_1
      try clear hcz12_2
      try clear hcz22_0
      try clear hcz22_1
      try clear hcz22_2
      try clear hfz10_0
      try clear hfz10_1
      try clear hfz10_2
      try clear hfz12_0
      try clear hfz12_1
      try clear hfz12_2
      try clear hfz22_0
      try clear hfz22_1
      try clear hfz22_2
      try clear p2
      obtain ⟨kq, x36_17, rfl, HA, HJ17, BK560, BK561, HB⟩ := hcut
      cases kq with
      | zero => exact absurd HA.out (by simp [gafferref02_Add.j2])
      | succ kj17 =>
       have H := HA.out
       clear HA
       simp only [gafferref02_Add.j2] at H
       have HC23 := Aside0.mk H
       clear H
       go_upto_if 36 with (fail)
       go_cut [8] (fun v8 wc => ∃ (kq : Nat) (x8_22 : Int), v8 = .int .i64 x8_22 ∧ Aside0 (gafferref02_Add.j3 kq a1 a2 x8_22 t563 l0_0 a0_1 a0_2 = some (r1, r2, r3, r4)) ∧ Aside0 (kq ≤ kj17) ∧ Aside0 (wc.heap[gb560]? = some (.cells #[(.slice A0_0 l0_0.length c0_0), .bool a0_1, .int .i64 a0_2] 24 (0, 0))) ∧ Aside0 (wc.heap[gb561]? = some (.cells #[(.slice none 0 0), .bool false, .int .i64 0] 24 (0, 0))) ∧ Aside0 (Below w.heap.size w wc))
       case first =>
        have H := HC23.out
        clear HC23
        by_cases c24 : x36_17 = true
        ·subst c24
         have H1 : (gafferref02_Add.j3 kj17 a1 a2 11 t563 l0_0 a0_1 a0_2) = some (r1, r2, r3, r4) := by rw [if_pos rfl] at H; exact H
         clear H
         have H := H1
         clear H1
         have H' := Aside0.mk H
         clear H
         go_wp2
         go_meet
         case rel => exact ⟨_, (11), (by first | rfl | (simp; done) | (simp [*]; done)), H', ⟨by have := HJ5.out; have := HJ15.out; have := HJ17.out; first | omega | exact Nat.le_refl _⟩, ⟨bk_ BK560⟩, ⟨bk_ BK561⟩, ⟨bl_2 HB GE560 GE561⟩⟩
        ·replace c24 := Bool.eq_false_iff.mpr c24
         subst c24
         have H1 : (gafferref02_Add.j3 kj17 a1 a2 x8_15 t563 l0_0 a0_1 a0_2) = some (r1, r2, r3, r4) := by rw [if_neg (show ¬ (false = true) by decide)] at H; exact H
         clear H
         have H := H1
         clear H1
         have H' := Aside0.mk H
         clear H
         go_wp2
         go_meet
         case rel => exact ⟨_, (x8_15), (by first | rfl | (simp; done) | (simp [*]; done)), H', ⟨by have := HJ5.out; have := HJ15.out; have := HJ17.out; first | omega | exact Nat.le_refl _⟩, ⟨bk_ BK560⟩, ⟨bk_ BK561⟩, ⟨bl_2 HB GE560 GE561⟩⟩
       case rest =>
        clear HC23
        try clear c1
        try clear c2
        try clear p2
        try clear c3
        try clear c9
        try clear c14
        try clear c14b0
        try clear c14b1
        try clear c17
        try clear c19
        try clear c19b0
        try clear c19b1
        try clear c20
        try clear c20b0
        try clear c21
        try clear c24
        try clear hcz10_0
        try clear hcz10_1
        try clear hcz10_2
        try clear hcz12_0
        try clear hcz12_1
        try clear hcz12_2
        try clear hcz22_0
        try clear hcz22_1
        try clear hcz22_2
        try clear hfz10_0
        try clear hfz10_1
        try clear hfz10_2
        try clear hfz12_0
        try clear hfz12_1
        try clear hfz12_2
        try clear hfz22_0
        try clear hfz22_1
        try clear hfz22_2
        try clear p2
        obtain ⟨kq, x8_22, rfl, HA, HJ22, BK560, BK561, HB⟩ := hcut
        cases kq with
        | zero => exact absurd HA.out (by simp [gafferref02_Add.j3])
        | succ kj22 =>
         have H := HA.out
         clear HA
         simp only [gafferref02_Add.j3] at H
         by_cases c25 : x8_22 = 0
         ·rw [if_pos c25] at H
          have c25b0 : (x8_22 == 0) = true := beq_iff_eq.mpr c25
          have c25b1 : (x8_22 != 0) = false := bne_eq_false_iff_eq.mpr c25
          clear c25
          have HC26 := Aside0.mk H
          clear H
          go_upto_if 47 with (first | ((with_reducible refine gate_dst (N := 10) rfl ?_); (try (refine gate_guard (by rfl) ?_; dsimp only)); refine box_event ?hg (N := 10) ?hd (cs := #[.string (⟨#[]⟩ : ByteArray), .string (⟨#[]⟩ : ByteArray), .int .i64 0]) (t := 35) ?hr ?_; (case hd => rfl); (case hg => rfl); (case hr => first | (go_simp; done) | (go_simp; rfl)); intro gb571 hg w27 hbox hb; have BK571 := Aside0.mk (hbox); have GW571 := Aside0.mk (bs_2 hg HB GE560 GE561); have GE571 := Aside0.mk (bs_2 hg HB GE560 GE561); replace HB := Aside0.mk (below_step (bl_2 HB GE560 GE561) hb); have NB560_571 := Aside0.mk (nb_ hg BK560); have NB571_560 := Aside0.mk (nc_ hg BK560); replace BK560 := Aside0.mk (bb_ BK560 hb); have NB561_571 := Aside0.mk (nb_ hg BK561); have NB571_561 := Aside0.mk (nc_ hg BK561); replace BK561 := Aside0.mk (bb_ BK561 hb); clear hb hbox hg; have hnb28 := NB571_560.out; have hnc28 := NB560_571.out; have hnb29 := NB571_561.out; have hnc29 := NB561_571.out; obtain ⟨hcz30_0, hcz30_1, hcz30_2, hfz30_0, hfz30_1, hfz30_2⟩ := c3_ BK571))
          (try simp only [Act.put, List.setIfInBounds_toArray, List.set_cons_zero, List.set_cons_succ])
          go_cut [] (fun wc => ∃ (kq : Nat) (x572000_25 : ByteArray) (x572001_25 : ByteArray) (x572002_25 : Int), Aside0 (gafferref02_Add.j4 kq a2 l0_0 a0_1 a0_2 x572000_25 x572001_25 x572002_25 = some (r1, r2, r3, r4)) ∧ Aside0 (kq ≤ kj22) ∧ Aside0 (wc.heap[gb560]? = some (.cells #[(.slice A0_0 l0_0.length c0_0), .bool a0_1, .int .i64 a0_2] 24 (0, 0))) ∧ Aside0 (wc.heap[gb561]? = some (.cells #[(.slice none 0 0), .bool false, .int .i64 0] 24 (0, 0))) ∧ Aside0 (wc.heap[gb571]? = some (.cells #[.string x572000_25, .string x572001_25, .int .i64 x572002_25] 35 (0, 0))) ∧ Aside0 (Below w.heap.size w wc))
          case first =>
           have H := HC26.out
           clear HC26
           by_cases c31 : t563 ≥ 0
           ·rw [if_pos c31] at H
            have c31b0 : decide (0 ≤ t563) = true := decide_eq_true c31
            clear c31
            (first | rw [c31b0] | (simp only [i64_w, i32_w]; rw [c31b0]) | skip)
            by_cases c32 : 0 ≤ t563
            ·rw [if_pos c32] at H
             have c32b0 : decide (0 ≤ t563) = true := decide_eq_true c32
             clear c32
             by_cases c33 : t563 < (l0_0.length : Int)
             ·rw [if_pos c33] at H
              have c33b0 : decide (t563 < (l0_0.length : Int)) = true := decide_eq_true c33
              clear c33
              have H' := Aside0.mk H
              clear H
              have hnb34 := NB560_561.out
              have hnc34 := NB561_560.out
              have hnb35 := NB560_571.out
              have hnc35 := NB571_560.out
              obtain ⟨hcz36_0, hcz36_1, hcz36_2, hfz36_0, hfz36_1, hfz36_2⟩ := c3_ BK560
              have p572 : 0 ≤ (t563 : Int) := of_decide_eq_true (by first | (with_reducible assumption) | assumption)
              have q572 : t563 < (l0_0.length : Int) := of_decide_eq_true (by first | (with_reducible assumption) | assumption)
              obtain ⟨ad572, e572, hx572_0, hx572_1, hx572_2⟩ := at_T35 HR0_0.out t563 p572 q572
              cases e572
              have hn572_0 : ad572.block ≠ gb571 := Nat.ne_of_lt (Nat.lt_of_lt_of_le (by have := World.block_lt_of_cell? _ _ hx572_0; first | rwa [add_block] at this | exact this) GW571.out)
              have hn572_1 : ad572.block ≠ gb571 := Nat.ne_of_lt (Nat.lt_of_lt_of_le (by have := World.block_lt_of_cell? _ _ hx572_0; first | rwa [add_block] at this | exact this) GW571.out)
              have hn572_2 : ad572.block ≠ gb571 := Nat.ne_of_lt (Nat.lt_of_lt_of_le (by have := World.block_lt_of_cell? _ _ hx572_0; first | rwa [add_block] at this | exact this) GW571.out)
              replace hx572_0 := (HB.out.cell (World.block_lt_of_cell? w _ hx572_0)).trans hx572_0
              replace hx572_1 := (HB.out.cell (World.block_lt_of_cell? w _ hx572_1)).trans hx572_1
              replace hx572_2 := (HB.out.cell (World.block_lt_of_cell? w _ hx572_2)).trans hx572_2
              replace hx572_0 := (cf_ (p := ⟨gb571, 0, none⟩) hn572_0 (.string a1)).trans hx572_0
              replace hx572_1 := (cf_ (p := ⟨gb571, 0, none⟩) hn572_0 (.string a1)).trans hx572_1
              replace hx572_2 := (cf_ (p := ⟨gb571, 0, none⟩) hn572_0 (.string a1)).trans hx572_2
              replace hx572_0 := (cf_ (p := ⟨gb571, 1, none⟩) hn572_1 (.string (⟨#[]⟩ : ByteArray))).trans hx572_0
              replace hx572_1 := (cf_ (p := ⟨gb571, 1, none⟩) hn572_1 (.string (⟨#[]⟩ : ByteArray))).trans hx572_1
              replace hx572_2 := (cf_ (p := ⟨gb571, 1, none⟩) hn572_1 (.string (⟨#[]⟩ : ByteArray))).trans hx572_2
              replace hx572_0 := (cf_ (p := ⟨gb571, 2, none⟩) hn572_2 (.int .i64 0)).trans hx572_0
              replace hx572_1 := (cf_ (p := ⟨gb571, 2, none⟩) hn572_2 (.int .i64 0)).trans hx572_1
              replace hx572_2 := (cf_ (p := ⟨gb571, 2, none⟩) hn572_2 (.int .i64 0)).trans hx572_2
              clear hn572_0
              clear hn572_1
              clear hn572_2
              replace p572 := eq_true p572
              replace q572 := eq_true q572
              have hnb37 := NB571_561.out
              have hnc37 := NB561_571.out
              obtain ⟨hcz38_0, hcz38_1, hcz38_2, hfz38_0, hfz38_1, hfz38_2⟩ := c3_ BK571
              go_wp2
              go_meet
              case rel => exact ⟨_, ((rd_T35 l0_0 t563).f0), ((rd_T35 l0_0 t563).f1), ((rd_T35 l0_0 t563).f2), H', ⟨by have := HJ5.out; have := HJ15.out; have := HJ17.out; have := HJ22.out; first | omega | exact Nat.le_refl _⟩, ⟨by (with_reducible repeat (first | refine blk_drewN ?_ _ | refine blk_drew ?_ | refine blk_alloc ?_ _)); refine blk_far ?_ NB560_571.out _; (with_reducible repeat (first | refine blk_drewN ?_ _ | refine blk_drew ?_ | refine blk_alloc ?_ _)); refine blk_far ?_ NB560_571.out _; (with_reducible repeat (first | refine blk_drewN ?_ _ | refine blk_drew ?_ | refine blk_alloc ?_ _)); refine blk_far ?_ NB560_571.out _; (with_reducible repeat (first | refine blk_drewN ?_ _ | refine blk_drew ?_ | refine blk_alloc ?_ _)); refine blk_far ?_ NB560_571.out _; (with_reducible repeat (first | refine blk_drewN ?_ _ | refine blk_drew ?_ | refine blk_alloc ?_ _)); refine blk_far ?_ NB560_571.out _; (with_reducible repeat (first | refine blk_drewN ?_ _ | refine blk_drew ?_ | refine blk_alloc ?_ _)); refine blk_far ?_ NB560_571.out _; (with_reducible repeat (first | refine blk_drewN ?_ _ | refine blk_drew ?_ | refine blk_alloc ?_ _)); exact BK560.out⟩, ⟨by (with_reducible repeat (first | refine blk_drewN ?_ _ | refine blk_drew ?_ | refine blk_alloc ?_ _)); refine blk_far ?_ NB561_571.out _; (with_reducible repeat (first | refine blk_drewN ?_ _ | refine blk_drew ?_ | refine blk_alloc ?_ _)); refine blk_far ?_ NB561_571.out _; (with_reducible repeat (first | refine blk_drewN ?_ _ | refine blk_drew ?_ | refine blk_alloc ?_ _)); refine blk_far ?_ NB561_571.out _; (with_reducible repeat (first | refine blk_drewN ?_ _ | refine blk_drew ?_ | refine blk_alloc ?_ _)); refine blk_far ?_ NB561_571.out _; (with_reducible repeat (first | refine blk_drewN ?_ _ | refine blk_drew ?_ | refine blk_alloc ?_ _)); refine blk_far ?_ NB561_571.out _; (with_reducible repeat (first | refine blk_drewN ?_ _ | refine blk_drew ?_ | refine blk_alloc ?_ _)); refine blk_far ?_ NB561_571.out _; (with_reducible repeat (first | refine blk_drewN ?_ _ | refine blk_drew ?_ | refine blk_alloc ?_ _)); exact BK561.out⟩, ⟨by (with_reducible repeat (first | refine blk_drewN ?_ _ | refine blk_drew ?_ | refine blk_alloc ?_ _)); refine blk_put (cs := #[.string ((rd_T35 l0_0 t563).f0), .string ((rd_T35 l0_0 t563).f1), .int .i64 0]) ?_ 2 _ rfl; (with_reducible repeat (first | refine blk_drewN ?_ _ | refine blk_drew ?_ | refine blk_alloc ?_ _)); refine blk_put (cs := #[.string ((rd_T35 l0_0 t563).f0), .string (⟨#[]⟩ : ByteArray), .int .i64 0]) ?_ 1 _ rfl; (with_reducible repeat (first | refine blk_drewN ?_ _ | refine blk_drew ?_ | refine blk_alloc ?_ _)); refine blk_put (cs := #[.string a1, .string (⟨#[]⟩ : ByteArray), .int .i64 0]) ?_ 0 _ rfl; (with_reducible repeat (first | refine blk_drewN ?_ _ | refine blk_drew ?_ | refine blk_alloc ?_ _)); refine blk_put (cs := #[.string a1, .string (⟨#[]⟩ : ByteArray), .int .i64 0]) ?_ 2 _ rfl; (with_reducible repeat (first | refine blk_drewN ?_ _ | refine blk_drew ?_ | refine blk_alloc ?_ _)); refine blk_put (cs := #[.string a1, .string (⟨#[]⟩ : ByteArray), .int .i64 0]) ?_ 1 _ rfl; (with_reducible repeat (first | refine blk_drewN ?_ _ | refine blk_drew ?_ | refine blk_alloc ?_ _)); refine blk_put (cs := #[.string (⟨#[]⟩ : ByteArray), .string (⟨#[]⟩ : ByteArray), .int .i64 0]) ?_ 0 _ rfl; (with_reducible repeat (first | refine blk_drewN ?_ _ | refine blk_drew ?_ | refine blk_alloc ?_ _)); exact BK571.out⟩, ⟨bl_3 HB GE560 GE561 GE571⟩⟩
             ·rw [if_neg c33] at H
              exact absurd H (by simp)
            ·rw [if_neg c32] at H
             exact absurd H (by simp)
           ·rw [if_neg c31] at H
            have c31b0 : decide (0 ≤ t563) = false := decide_eq_false c31
            clear c31
            (first | rw [c31b0] | (simp only [i64_w, i32_w]; rw [c31b0]) | skip)
            have H' := Aside0.mk H
            clear H
            go_wp2
            go_meet
            case rel => exact ⟨_, (a1), ((⟨#[]⟩ : ByteArray)), (0), H', ⟨by have := HJ5.out; have := HJ15.out; have := HJ17.out; have := HJ22.out; first | omega | exact Nat.le_refl _⟩, ⟨by (with_reducible repeat (first | refine blk_drewN ?_ _ | refine blk_drew ?_ | refine blk_alloc ?_ _)); refine blk_far ?_ NB560_571.out _; (with_reducible repeat (first | refine blk_drewN ?_ _ | refine blk_drew ?_ | refine blk_alloc ?_ _)); refine blk_far ?_ NB560_571.out _; (with_reducible repeat (first | refine blk_drewN ?_ _ | refine blk_drew ?_ | refine blk_alloc ?_ _)); refine blk_far ?_ NB560_571.out _; (with_reducible repeat (first | refine blk_drewN ?_ _ | refine blk_drew ?_ | refine blk_alloc ?_ _)); exact BK560.out⟩, ⟨by (with_reducible repeat (first | refine blk_drewN ?_ _ | refine blk_drew ?_ | refine blk_alloc ?_ _)); refine blk_far ?_ NB561_571.out _; (with_reducible repeat (first | refine blk_drewN ?_ _ | refine blk_drew ?_ | refine blk_alloc ?_ _)); refine blk_far ?_ NB561_571.out _; (with_reducible repeat (first | refine blk_drewN ?_ _ | refine blk_drew ?_ | refine blk_alloc ?_ _)); refine blk_far ?_ NB561_571.out _; (with_reducible repeat (first | refine blk_drewN ?_ _ | refine blk_drew ?_ | refine blk_alloc ?_ _)); exact BK561.out⟩, ⟨by (with_reducible repeat (first | refine blk_drewN ?_ _ | refine blk_drew ?_ | refine blk_alloc ?_ _)); refine blk_put (cs := #[.string a1, .string (⟨#[]⟩ : ByteArray), .int .i64 0]) ?_ 2 _ rfl; (with_reducible repeat (first | refine blk_drewN ?_ _ | refine blk_drew ?_ | refine blk_alloc ?_ _)); refine blk_put (cs := #[.string a1, .string (⟨#[]⟩ : ByteArray), .int .i64 0]) ?_ 1 _ rfl; (with_reducible repeat (first | refine blk_drewN ?_ _ | refine blk_drew ?_ | refine blk_alloc ?_ _)); refine blk_put (cs := #[.string (⟨#[]⟩ : ByteArray), .string (⟨#[]⟩ : ByteArray), .int .i64 0]) ?_ 0 _ rfl; (with_reducible repeat (first | refine blk_drewN ?_ _ | refine blk_drew ?_ | refine blk_alloc ?_ _)); exact BK571.out⟩, ⟨bl_3 HB GE560 GE561 GE571⟩⟩
          case rest =>
           clear HC26
           try clear c1
           try clear c2
           try clear p2
           try clear c3
           try clear p5
           try clear q5
           try clear hx5
           try clear c9
           try clear c14
           try clear c14b0
           try clear c14b1
           try clear c17
           try clear c19
           try clear c19b0
           try clear c19b1
           try clear c20
           try clear c20b0
           try clear c21
           try clear c24
           try clear c25
           try clear c25b0
           try clear c25b1
           try clear c28
           try clear c29
           try clear c31
           try clear c31b0
           try clear c32
           try clear c32b0
           try clear c33
           try clear c33b0
           try clear c34
           try clear c35
           try clear c36
           try clear c37
           try clear hcz10_0
           try clear hcz10_1
           try clear hcz10_2
           try clear hcz12_0
           try clear hcz12_1
           try clear hcz12_2
           try clear hcz22_0
           try clear hcz22_1
           try clear hcz22_2
           try clear hcz30_0
           try clear hcz30_1
           try clear hcz30_2
           try clear hcz36_0
           try clear hcz36_1
           try clear hcz36_2
           try clear hcz38_0
           try clear hcz38_1
           try clear hcz38_2
           try clear hfz10_0
           try clear hfz10_1
           try clear hfz10_2
           try clear hfz12_0
           try clear hfz12_1
           try clear hfz12_2
           try clear hfz22_0
           try clear hfz22_1
           try clear hfz22_2
           try clear hfz30_0
           try clear hfz30_1
           try clear hfz30_2
           try clear hfz36_0
           try clear hfz36_1
           try clear hfz36_2
           try clear hfz38_0
           try clear hfz38_1
           try clear hfz38_2
           try clear hx572_0
           try clear hx572_1
           try clear hx572_2
           try clear p2
           try clear p572
           try clear q572
           obtain ⟨kq, x572000_25, x572001_25, x572002_25, HA, HJ25, BK560, BK561, BK571, HB⟩ := hcut
           cases kq with
           | zero => exact absurd HA.out (by simp [gafferref02_Add.j4])
           | succ kj25 =>
            have H := HA.out
            clear HA
            simp only [gafferref02_Add.j4] at H
            by_cases c39 : x572001_25.size + a2.size ≤ 9223372036854775807
            ·rw [if_pos c39] at H
             have c39b0 := eq_true c39
             have c39b1 : decide (x572001_25.size + a2.size ≤ 9223372036854775807) = true := decide_eq_true c39
             try have c39b2 : (9223372036854775807 < x572001_25.size + a2.size) = False := eq_false (Nat.not_lt.2 c39)
             clear c39
             replace H := Option.bind_eq_some_iff.mp H
             obtain ⟨⟨t573, t576, t577⟩, A400, H⟩ := H
             replace H : ((gafferref02_burnt.f t573 t576 t577).bind fun bt578 => (if bt578.2.2.2 = true then (some (bt578.1, bt578.2.1, bt578.2.2.1, 0)) else (some (bt578.1, bt578.2.1, bt578.2.2.1, 8)))) = some (r1, r2, r3, r4) := H
             have A40 := Aside0.mk A400
             clear A400
             replace H := Option.bind_eq_some_iff.mp H
             obtain ⟨⟨t578, t581, t582, t583⟩, A410, H⟩ := H
             replace H : (if t583 = true then (some (t578, t581, t582, 0)) else (some (t578, t581, t582, 8))) = some (r1, r2, r3, r4) := H
             have A41 := Aside0.mk A410
             clear A410
             by_cases c42 : t583 = true
             ·subst c42
              have H1 : (some (t578, t581, t582, 0)) = some (r1, r2, r3, r4) := by rw [if_pos rfl] at H; exact H
              clear H
              have H := H1
              clear H1
              simp only [Option.some.injEq, Prod.mk.injEq] at H
              obtain ⟨rfl, rfl, rfl, rfl⟩ := H
              have hnb43 := NB571_560.out
              have hnc43 := NB560_571.out
              have hnb44 := NB571_561.out
              have hnc44 := NB561_571.out
              obtain ⟨hcz45_0, hcz45_1, hcz45_2, hfz45_0, hfz45_1, hfz45_2⟩ := c3_ BK571
              have hnb46 := NB560_561.out
              have hnc46 := NB561_560.out
              obtain ⟨hcz47_0, hcz47_1, hcz47_2, hfz47_0, hfz47_1, hfz47_2⟩ := c3_ BK560
              go_wp2_with (first | ((with_reducible refine gate_callee (f := 41) rfl ?_); refine goesL_ (some 61) rfl rfl Try.func41 (by kernel_rfl) rfl #[.agg #[.slice A0_0 l0_0.length c0_0, .bool a0_1, .int .i64 a0_2], .agg #[.string x572000_25, .string (x572001_25 ++ a2), .int .i64 x572002_25]] rfl (ar_) ?_; (with_reducible refine (gafferref02_with.calls kj25 _ _ l0_0 a0_1 a0_2 x572000_25 (x572001_25 ++ a2) x572002_25 t573 t576 t577 _ ?side1 ?side2 A40.out).mono ?_); (case side1 => exact Kd.C_below HR0_0.out (bl_3 HB GE560 GE561 GE571)); (case side2 => exact HC0_0.out); rintro e w48 ⟨v574, rfl, ho0, hb⟩; refine ⟨_, rfl, ?_⟩; have HO575 := Aside0.mk (Kd.R_lower (Kd.R_newB ho0 (g := gb571) (o := .cells #[.string x572000_25, .string (x572001_25 ++ a2), .int .i64 x572002_25] 35 (0, 0)) (bp_0 BK571)) (below_size (bl_3 HB GE560 GE561 GE571))); replace BK560 := Aside0.mk (blk_below (g := gb560) (o := .cells #[.slice A0_0 l0_0.length c0_0, .bool a0_1, .int .i64 a0_2] 24 (0, 0)) (bp_1 BK560 NB560_571) hb); replace BK561 := Aside0.mk (blk_below (g := gb561) (o := .cells #[.slice none 0 0, .bool false, .int .i64 0] 24 (0, 0)) (bp_1 BK561 NB561_571) hb); replace BK571 := Aside0.mk (blk_below (g := gb571) (o := .cells #[.string x572000_25, .string (x572001_25 ++ a2), .int .i64 x572002_25] 35 (0, 0)) (bp_0 BK571) hb); replace HB := Aside0.mk (below_step (bl_3 HB GE560 GE561 GE571) hb); (try clear hb); (try clear hb2); (try clear hk); (try clear hi); (try clear ho0); obtain ⟨Ao49, co49, eo49⟩ := Kd.R_slice HO575.out; subst eo49) | ((with_reducible refine gate_callee (f := 40) rfl ?_); refine goesL_ (some 62) rfl rfl Try.func40 (by kernel_rfl) rfl #[.agg #[.slice Ao49 t573.length co49, .bool t576, .int .i64 t577]] rfl (ar_) ?_; (with_reducible refine (gafferref02_burnt.calls (fun k_ => some k_ = (.slice Ao49 t573.length co49 : Value).ownBlock) (.slice Ao49 t573.length co49) t573 t576 t577 t578 t581 t582 true w _ ?side1 ?side2 A41.out).mono ?_); (case side1 => repeat (first | (with_reducible first | exact HB.out | apply below_alloc | apply pw_below_drewN | apply below_drew1 | refine below_set ?_ GE560.out | refine below_set ?_ GE561.out | refine below_set ?_ GE571.out) | exact HB.out)); (case side2 => exact Kd.R_tight rfl HO575.out); rintro e w50 ⟨v579, rfl, ho0, hb, hkp⟩; refine ⟨_, rfl, ?_⟩; replace BK560 := Aside0.mk (blk_kept (bk_ BK560) hkp (fun hs_ => (fun e_ => (Kd.R_ne HO575.out BK560.out (by decide)) e_) hs_)); replace BK561 := Aside0.mk (blk_kept (bk_ BK561) hkp (fun hs_ => (fun e_ => (Kd.R_ne HO575.out BK561.out (by decide)) e_) hs_)); have HO580 := Aside0.mk (Kd.R_mono (ok' := fun k_ => k_ ≠ gb571) ho0 (fun k_ hk_ => Or.elim hk_ (fun hs_ => fun e_ => (Kd.R_away HO575.out (fun _ hk => hk.2)) (by rw [← e_]; exact hs_)) (fun hn_ => (Kd.freshB (g := gb571) (o := .cells #[.string x572000_25, .string (x572001_25 ++ a2), .int .i64 x572002_25] 35 (0, 0)) (bk_ BK571) k_ hn_)))); replace BK571 := Aside0.mk (blk_kept (bk_ BK571) hkp (fun hs_ => (fun e_ => (Kd.R_away HO575.out (fun _ hk => hk.2)) e_) hs_)); replace HB := Aside0.mk (hb); clear HO575; (try clear hb); (try clear hkp); (try clear ho0)) | ((with_reducible refine gate_dst (N := 11) rfl ?_); (try (refine gate_guard (by rfl) ?_; dsimp only)); refine box_event ?hg (N := 11) ?hd (cs := #[.slice none 0 0, .bool false, .int .i64 0]) (t := 24) ?hr ?_; (case hd => rfl); (case hg => rfl); (case hr => first | (go_simp; done) | (go_simp; rfl)); intro gb584 hg w51 hbox hb; replace HO580 := Aside0.mk (Kd.R_below (by (with_reducible repeat (first | apply Kd.R_alloc | apply Kd.R_drewN | apply Kd.R_drew)); exact HO580.out) hb); have BK584 := Aside0.mk (hbox); have GW584 := Aside0.mk (bs_3 hg HB GE560 GE561 GE571); have GE584 := Aside0.mk (bs_3 hg HB GE560 GE561 GE571); replace HB := Aside0.mk (below_step (bl_3 HB GE560 GE561 GE571) hb); have NB560_584 := Aside0.mk (nb_ hg BK560); have NB584_560 := Aside0.mk (nc_ hg BK560); replace BK560 := Aside0.mk (bb_ BK560 hb); have NB561_584 := Aside0.mk (nb_ hg BK561); have NB584_561 := Aside0.mk (nc_ hg BK561); replace BK561 := Aside0.mk (bb_ BK561 hb); have NB571_584 := Aside0.mk (nb_ hg BK571); have NB584_571 := Aside0.mk (nc_ hg BK571); replace BK571 := Aside0.mk (bb_ BK571 hb); clear hb hbox hg; obtain ⟨Ao52, co52, eo52⟩ := Kd.R_slice HO580.out; subst eo52; have hnb53 := NB584_560.out; have hnc53 := NB560_584.out; have hnb54 := NB584_561.out; have hnc54 := NB561_584.out; have hnb55 := NB584_571.out; have hnc55 := NB571_584.out; obtain ⟨hcz56_0, hcz56_1, hcz56_2, hfz56_0, hfz56_1, hfz56_2⟩ := c3_ BK584; obtain ⟨hcz57_0, hcz57_1, hcz57_2, hfz57_0, hfz57_1, hfz57_2⟩ := c3_ BK561))
              refine bodyPost_ret (results_ct rfl _ _ gb561 24 #[.slice Ao52 t578.length co52, .bool t581, .int .i64 t582] (0, 0) _ rfl (bp_1 BK561 NB561_584) Try.underlying24 rfl (by kernel_rfl)) rfl ?_
              exact ⟨_, by first | rfl | (simp; done) | (simp [*]; done), by (with_reducible repeat (first | apply Kd.R_alloc | apply Kd.R_drewN | apply Kd.R_drew)); exact Kd.R_mono (Kd.R_far (p := ⟨gb561, 2, none⟩) (Kd.R_far (p := ⟨gb561, 1, none⟩) (Kd.R_far (p := ⟨gb561, 0, none⟩) (Kd.R_far (p := ⟨gb584, 2, none⟩) (Kd.R_far (p := ⟨gb584, 1, none⟩) (Kd.R_far (p := ⟨gb584, 0, none⟩) (Kd.R_types (Kd.R_types HO580.out BK584.out (by decide)) BK561.out (by decide)) (fun _ hk => hk.1.2) (.slice Ao52 t578.length co52)) (fun _ hk => hk.1.2) (.bool t581)) (fun _ hk => hk.1.2) (.int .i64 t582)) (fun _ hk => hk.2) (.slice Ao52 t578.length co52)) (fun _ hk => hk.2) (.bool t581)) (fun _ hk => hk.2) (.int .i64 t582)) (fun _ hk => trivial), bl_4 HB GE560 GE561 GE571 GE584⟩
             ·replace c42 := Bool.eq_false_iff.mpr c42
              subst c42
              have H1 : (some (t578, t581, t582, 8)) = some (r1, r2, r3, r4) := by rw [if_neg (show ¬ (false = true) by decide)] at H; exact H
              clear H
              have H := H1
              clear H1
              simp only [Option.some.injEq, Prod.mk.injEq] at H
              obtain ⟨rfl, rfl, rfl, rfl⟩ := H
              have hnb58 := NB571_560.out
              have hnc58 := NB560_571.out
              have hnb59 := NB571_561.out
              have hnc59 := NB561_571.out
              obtain ⟨hcz60_0, hcz60_1, hcz60_2, hfz60_0, hfz60_1, hfz60_2⟩ := c3_ BK571
              have hnb61 := NB560_561.out
              have hnc61 := NB561_560.out
              obtain ⟨hcz62_0, hcz62_1, hcz62_2, hfz62_0, hfz62_1, hfz62_2⟩ := c3_ BK560
              go_wp2_with (first | ((with_reducible refine gate_callee (f := 41) rfl ?_); refine goesL_ (some 61) rfl rfl Try.func41 (by kernel_rfl) rfl #[.agg #[.slice A0_0 l0_0.length c0_0, .bool a0_1, .int .i64 a0_2], .agg #[.string x572000_25, .string (x572001_25 ++ a2), .int .i64 x572002_25]] rfl (ar_) ?_; (with_reducible refine (gafferref02_with.calls kj25 _ _ l0_0 a0_1 a0_2 x572000_25 (x572001_25 ++ a2) x572002_25 t573 t576 t577 _ ?side1 ?side2 A40.out).mono ?_); (case side1 => exact Kd.C_below HR0_0.out (bl_3 HB GE560 GE561 GE571)); (case side2 => exact HC0_0.out); rintro e w63 ⟨v574, rfl, ho0, hb⟩; refine ⟨_, rfl, ?_⟩; have HO575 := Aside0.mk (Kd.R_lower (Kd.R_newB ho0 (g := gb571) (o := .cells #[.string x572000_25, .string (x572001_25 ++ a2), .int .i64 x572002_25] 35 (0, 0)) (bp_0 BK571)) (below_size (bl_3 HB GE560 GE561 GE571))); replace BK560 := Aside0.mk (blk_below (g := gb560) (o := .cells #[.slice A0_0 l0_0.length c0_0, .bool a0_1, .int .i64 a0_2] 24 (0, 0)) (bp_1 BK560 NB560_571) hb); replace BK561 := Aside0.mk (blk_below (g := gb561) (o := .cells #[.slice none 0 0, .bool false, .int .i64 0] 24 (0, 0)) (bp_1 BK561 NB561_571) hb); replace BK571 := Aside0.mk (blk_below (g := gb571) (o := .cells #[.string x572000_25, .string (x572001_25 ++ a2), .int .i64 x572002_25] 35 (0, 0)) (bp_0 BK571) hb); replace HB := Aside0.mk (below_step (bl_3 HB GE560 GE561 GE571) hb); (try clear hb); (try clear hb2); (try clear hk); (try clear hi); (try clear ho0); obtain ⟨Ao64, co64, eo64⟩ := Kd.R_slice HO575.out; subst eo64) | ((with_reducible refine gate_callee (f := 40) rfl ?_); refine goesL_ (some 62) rfl rfl Try.func40 (by kernel_rfl) rfl #[.agg #[.slice Ao64 t573.length co64, .bool t576, .int .i64 t577]] rfl (ar_) ?_; (with_reducible refine (gafferref02_burnt.calls (fun k_ => some k_ = (.slice Ao64 t573.length co64 : Value).ownBlock) (.slice Ao64 t573.length co64) t573 t576 t577 t578 t581 t582 false w _ ?side1 ?side2 A41.out).mono ?_); (case side1 => repeat (first | (with_reducible first | exact HB.out | apply below_alloc | apply pw_below_drewN | apply below_drew1 | refine below_set ?_ GE560.out | refine below_set ?_ GE561.out | refine below_set ?_ GE571.out) | exact HB.out)); (case side2 => exact Kd.R_tight rfl HO575.out); rintro e w65 ⟨v579, rfl, ho0, hb, hkp⟩; refine ⟨_, rfl, ?_⟩; replace BK560 := Aside0.mk (blk_kept (bk_ BK560) hkp (fun hs_ => (fun e_ => (Kd.R_ne HO575.out BK560.out (by decide)) e_) hs_)); replace BK561 := Aside0.mk (blk_kept (bk_ BK561) hkp (fun hs_ => (fun e_ => (Kd.R_ne HO575.out BK561.out (by decide)) e_) hs_)); have HO580 := Aside0.mk (Kd.R_mono (ok' := fun k_ => k_ ≠ gb571) ho0 (fun k_ hk_ => Or.elim hk_ (fun hs_ => fun e_ => (Kd.R_away HO575.out (fun _ hk => hk.2)) (by rw [← e_]; exact hs_)) (fun hn_ => (Kd.freshB (g := gb571) (o := .cells #[.string x572000_25, .string (x572001_25 ++ a2), .int .i64 x572002_25] 35 (0, 0)) (bk_ BK571) k_ hn_)))); replace BK571 := Aside0.mk (blk_kept (bk_ BK571) hkp (fun hs_ => (fun e_ => (Kd.R_away HO575.out (fun _ hk => hk.2)) e_) hs_)); replace HB := Aside0.mk (hb); clear HO575; (try clear hb); (try clear hkp); (try clear ho0)) | ((with_reducible refine gate_dst (N := 11) rfl ?_); (try (refine gate_guard (by rfl) ?_; dsimp only)); refine box_event ?hg (N := 11) ?hd (cs := #[.slice none 0 0, .bool false, .int .i64 0]) (t := 24) ?hr ?_; (case hd => rfl); (case hg => rfl); (case hr => first | (go_simp; done) | (go_simp; rfl)); intro gb584 hg w66 hbox hb; replace HO580 := Aside0.mk (Kd.R_below (by (with_reducible repeat (first | apply Kd.R_alloc | apply Kd.R_drewN | apply Kd.R_drew)); exact HO580.out) hb); have BK584 := Aside0.mk (hbox); have GW584 := Aside0.mk (bs_3 hg HB GE560 GE561 GE571); have GE584 := Aside0.mk (bs_3 hg HB GE560 GE561 GE571); replace HB := Aside0.mk (below_step (bl_3 HB GE560 GE561 GE571) hb); have NB560_584 := Aside0.mk (nb_ hg BK560); have NB584_560 := Aside0.mk (nc_ hg BK560); replace BK560 := Aside0.mk (bb_ BK560 hb); have NB561_584 := Aside0.mk (nb_ hg BK561); have NB584_561 := Aside0.mk (nc_ hg BK561); replace BK561 := Aside0.mk (bb_ BK561 hb); have NB571_584 := Aside0.mk (nb_ hg BK571); have NB584_571 := Aside0.mk (nc_ hg BK571); replace BK571 := Aside0.mk (bb_ BK571 hb); clear hb hbox hg; obtain ⟨Ao67, co67, eo67⟩ := Kd.R_slice HO580.out; subst eo67; have hnb68 := NB584_560.out; have hnc68 := NB560_584.out; have hnb69 := NB584_561.out; have hnc69 := NB561_584.out; have hnb70 := NB584_571.out; have hnc70 := NB571_584.out; obtain ⟨hcz71_0, hcz71_1, hcz71_2, hfz71_0, hfz71_1, hfz71_2⟩ := c3_ BK584; obtain ⟨hcz72_0, hcz72_1, hcz72_2, hfz72_0, hfz72_1, hfz72_2⟩ := c3_ BK561))
              refine bodyPost_ret (results_ct rfl _ _ gb561 24 #[.slice Ao67 t578.length co67, .bool t581, .int .i64 t582] (0, 0) _ rfl (bp_1 BK561 NB561_584) Try.underlying24 rfl (by kernel_rfl)) rfl ?_
              exact ⟨_, by first | rfl | (simp; done) | (simp [*]; done), by (with_reducible repeat (first | apply Kd.R_alloc | apply Kd.R_drewN | apply Kd.R_drew)); exact Kd.R_mono (Kd.R_far (p := ⟨gb561, 2, none⟩) (Kd.R_far (p := ⟨gb561, 1, none⟩) (Kd.R_far (p := ⟨gb561, 0, none⟩) (Kd.R_far (p := ⟨gb584, 2, none⟩) (Kd.R_far (p := ⟨gb584, 1, none⟩) (Kd.R_far (p := ⟨gb584, 0, none⟩) (Kd.R_types (Kd.R_types HO580.out BK584.out (by decide)) BK561.out (by decide)) (fun _ hk => hk.1.2) (.slice Ao67 t578.length co67)) (fun _ hk => hk.1.2) (.bool t581)) (fun _ hk => hk.1.2) (.int .i64 t582)) (fun _ hk => hk.2) (.slice Ao67 t578.length co67)) (fun _ hk => hk.2) (.bool t581)) (fun _ hk => hk.2) (.int .i64 t582)) (fun _ hk => trivial), bl_4 HB GE560 GE561 GE571 GE584⟩
            ·rw [if_neg c39] at H
             exact absurd H (by simp)
         ·rw [if_neg c25] at H
          have c25b0 : (x8_22 == 0) = false := beq_eq_false_iff_ne.mpr c25
          have c25b1 : (x8_22 != 0) = true := bne_iff_ne.mpr c25
          replace H := Option.bind_eq_some_iff.mp H
          obtain ⟨⟨t565, t568, t569, t570⟩, A730, H⟩ := H
          replace H : (some (t565, t568, t569, t570)) = some (r1, r2, r3, r4) := H
          have A73 := Aside0.mk A730
          clear A730
          simp only [Option.some.injEq, Prod.mk.injEq] at H
          obtain ⟨rfl, rfl, rfl, rfl⟩ := H
          have hnb74 := NB560_561.out
          have hnc74 := NB561_560.out
          obtain ⟨hcz75_0, hcz75_1, hcz75_2, hfz75_0, hfz75_1, hfz75_2⟩ := c3_ BK560
          go_wp2_with (first | ((with_reducible refine gate_callee (f := 39) rfl ?_); refine goesL_ (some 41) rfl rfl Try.func39 (by kernel_rfl) rfl #[.agg #[.slice A0_0 l0_0.length c0_0, .bool a0_1, .int .i64 a0_2], .int .i64 x8_22] rfl (ar_) ?_; (with_reducible refine (gafferref02_bad.calls _ _ l0_0 a0_1 a0_2 x8_22 t565 t568 t569 t570 _ ?side1 ?side2 A73.out).mono ?_); (case side1 => repeat (first | exact (Kd.C_below HR0_0.out HB.out) | (with_reducible refine Kd.C_alloc ?_ _) | (with_reducible refine Kd.C_drewN ?_ _) | (with_reducible refine Kd.C_drew ?_))); (case side2 => exact HC0_0.out); rintro e w76 ⟨v566, rfl, ho0, hb⟩; refine ⟨_, rfl, ?_⟩; have HO567 := Aside0.mk (Kd.R_lower ho0 (below_size (bl_2 HB GE560 GE561))); replace BK560 := Aside0.mk (bb_ BK560 hb); replace BK561 := Aside0.mk (bb_ BK561 hb); replace HB := Aside0.mk (below_step (bl_2 HB GE560 GE561) hb); (try clear hb); (try clear hb2); (try clear hk); (try clear hi); (try clear ho0); obtain ⟨Ao77, co77, eo77⟩ := Kd.R_slice HO567.out; subst eo77; obtain ⟨hcz78_0, hcz78_1, hcz78_2, hfz78_0, hfz78_1, hfz78_2⟩ := c3_ BK561))
          refine bodyPost_ret (results_ct rfl _ _ gb561 24 #[.slice Ao77 t565.length co77, .bool t568, .int .i64 t569] (0, 0) _ rfl (bp_0 BK561) Try.underlying24 rfl (by kernel_rfl)) rfl ?_
          exact ⟨_, by first | rfl | (simp; done) | (simp [*]; done), by (with_reducible repeat (first | apply Kd.R_alloc | apply Kd.R_drewN | apply Kd.R_drew)); exact Kd.R_mono (Kd.R_far (p := ⟨gb561, 2, none⟩) (Kd.R_far (p := ⟨gb561, 1, none⟩) (Kd.R_far (p := ⟨gb561, 0, none⟩) (Kd.R_types HO567.out BK561.out (by decide)) (fun _ hk => hk.2) (.slice Ao77 t565.length co77)) (fun _ hk => hk.2) (.bool t568)) (fun _ hk => hk.2) (.int .i64 t569)) (fun _ hk => trivial), bl_2 HB GE560 GE561⟩

end Go.Proofs.Ytpdacpopkegecaa.PA
