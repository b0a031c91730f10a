-- Written for this claim by a program of this session. Lean checks it.
import Derived.Test.YtpdacpopkegecaaPAx0
import Derived.Test.YtpdacpopkegecaaPAx2
import Derived.Test.YtpdacpopkegecaaPAx9
namespace Go.Proofs.Ytpdacpopkegecaa.PA
open Go.RowKit Go.Proofs.YtpdacpopkegecaaW.PrintWords Go.Proofs.YtpdacpopkegecaaW.PrintLast Go.Proofs.YtpdacpopkegecaaW.PrintMore Go.Proofs.Ytpdacpopkegecaa.Sh Go.Proofs.Ytpdacpopkegecaa.Op
attribute [local go_sem] max2_int min2_int max_two min_two max_three min_three max_four min_four   -- for this text's walks alone
set_option linter.unusedVariables false
set_option linter.unusedSimpArgs false

/-! ### gafferref02_Swap: function 25 -/
mutual
def gafferref02_Swap.j0 : Nat → ByteArray → ByteArray → Int → Int → Bool → List (S35) → Bool → Int → Option ((List (S35)) × Bool × Int × Int)
 | 0, _, _, _, _, _, _, _, _ => none
 | k + 1, x1, x2, x8, x9, x23, x316000, x316001, x316002 => if x23 = true then (gafferref02_Swap.j1 k x1 x2 6 x9 x316000 x316001 x316002) else (gafferref02_Swap.j1 k x1 x2 x8 x9 x316000 x316001 x316002)
def gafferref02_Swap.j1 : Nat → ByteArray → ByteArray → Int → Int → List (S35) → Bool → Int → Option ((List (S35)) × Bool × Int × Int)
 | 0, _, _, _, _, _, _, _ => none
 | k + 1, x1, x2, x8, x9, x316000, x316001, x316002 => if x8 = 0 then (if 0 ≤ x9 then (if x9 < (x316000.length : Int) then (gafferref02_Swap.j2 k x1 x2 x8 x9 (decide (((rd_T35 x316000 x9).f2) < (((rd_T35 x316000 x9).f1).size : Int))) x316000 x316001 x316002) else (none)) else (none)) else (gafferref02_Swap.j2 k x1 x2 x8 x9 false x316000 x316001 x316002)
def gafferref02_Swap.j2 : Nat → ByteArray → ByteArray → Int → Int → Bool → List (S35) → Bool → Int → Option ((List (S35)) × Bool × Int × Int)
 | 0, _, _, _, _, _, _, _, _ => none
 | k + 1, x1, x2, x8, x9, x41, x316000, x316001, x316002 => if x41 = true then (gafferref02_Swap.j3 k x1 x2 9 x9 x316000 x316001 x316002) else (gafferref02_Swap.j3 k x1 x2 x8 x9 x316000 x316001 x316002)
def gafferref02_Swap.j3 : Nat → ByteArray → ByteArray → Int → Int → List (S35) → Bool → Int → Option ((List (S35)) × Bool × Int × Int)
 | 0, _, _, _, _, _, _, _ => none
 | k + 1, x1, x2, x8, x9, x316000, x316001, x316002 => if x8 = 0 then ((gafferref02_name.f x2).bind fun t321 => (gafferref02_Swap.j4 k x1 x2 x8 x9 (!t321) x316000 x316001 x316002)) else (gafferref02_Swap.j4 k x1 x2 x8 x9 false x316000 x316001 x316002)
def gafferref02_Swap.j4 : Nat → ByteArray → ByteArray → Int → Int → Bool → List (S35) → Bool → Int → Option ((List (S35)) × Bool × Int × Int)
 | 0, _, _, _, _, _, _, _, _ => none
 | k + 1, x1, x2, x8, x9, x48, x316000, x316001, x316002 => if x48 = true then (gafferref02_Swap.j5 k x1 x2 5 x9 x316000 x316001 x316002) else (gafferref02_Swap.j5 k x1 x2 x8 x9 x316000 x316001 x316002)
def gafferref02_Swap.j5 : Nat → ByteArray → ByteArray → Int → Int → List (S35) → Bool → Int → Option ((List (S35)) × Bool × Int × Int)
 | 0, _, _, _, _, _, _, _ => none
 | k + 1, x1, x2, x8, x9, x316000, x316001, x316002 => if x8 = 0 then ((gafferref02_Copy.f x316000 x316001 x316002).bind fun bt328 => ((gafferref02_burnt.f bt328.1 bt328.2.1 bt328.2.2).bind fun bt333 => (if bt333.2.2.2 = true then (if 0 ≤ x9 then (if x9 < (bt333.1.length : Int) then ((gafferref02_without.f k bt333.1 bt333.2.1 bt333.2.2.1 x1).bind fun bt342 => ((gafferref02_with.f k bt342.1 bt342.2.1 bt342.2.2 x2 ((rd_T35 bt333.1 x9).f1) ((rd_T35 bt333.1 x9).f2)).bind fun bt347 => (some (bt347.1, bt347.2.1, bt347.2.2, 0)))) else (none)) else (none)) else (some (bt333.1, bt333.2.1, bt333.2.2.1, 8))))) else ((gafferref02_bad.f x316000 x316001 x316002 x8).bind fun bt322 => (some (bt322.1, bt322.2.1, bt322.2.2.1, bt322.2.2.2)))
end
def gafferref02_Swap.f (k : Nat) (l0_0 : List (S35)) (a0_1 : Bool) (a0_2 : Int) (a1 : ByteArray) (a2 : ByteArray) : Option ((List (S35)) × Bool × Int × Int) := (gafferref02_ready.f k l0_0 a0_1 a0_2).bind fun t317 => ((gafferref02_find.f k l0_0 a0_1 a0_2 a1).bind fun t318 => (if t317 = 0 then (gafferref02_Swap.j0 k a1 a2 t317 t318 (decide (t318 < 0)) l0_0 a0_1 a0_2) else (gafferref02_Swap.j0 k a1 a2 t317 t318 false l0_0 a0_1 a0_2)))
theorem gafferref02_Swap.mono_l : ∀ k, (∀ y0 y1 y2 y3 y4 y5 y6 y7, LeO (gafferref02_Swap.j0 k y0 y1 y2 y3 y4 y5 y6 y7) (gafferref02_Swap.j0 (k + 1) y0 y1 y2 y3 y4 y5 y6 y7)) ∧ (∀ y0 y1 y2 y3 y4 y5 y6, LeO (gafferref02_Swap.j1 k y0 y1 y2 y3 y4 y5 y6) (gafferref02_Swap.j1 (k + 1) y0 y1 y2 y3 y4 y5 y6)) ∧ (∀ y0 y1 y2 y3 y4 y5 y6 y7, LeO (gafferref02_Swap.j2 k y0 y1 y2 y3 y4 y5 y6 y7) (gafferref02_Swap.j2 (k + 1) y0 y1 y2 y3 y4 y5 y6 y7)) ∧ (∀ y0 y1 y2 y3 y4 y5 y6, LeO (gafferref02_Swap.j3 k y0 y1 y2 y3 y4 y5 y6) (gafferref02_Swap.j3 (k + 1) y0 y1 y2 y3 y4 y5 y6)) ∧ (∀ y0 y1 y2 y3 y4 y5 y6 y7, LeO (gafferref02_Swap.j4 k y0 y1 y2 y3 y4 y5 y6 y7) (gafferref02_Swap.j4 (k + 1) y0 y1 y2 y3 y4 y5 y6 y7)) ∧ (∀ y0 y1 y2 y3 y4 y5 y6, LeO (gafferref02_Swap.j5 k y0 y1 y2 y3 y4 y5 y6) (gafferref02_Swap.j5 (k + 1) y0 y1 y2 y3 y4 y5 y6))
 | 0 => ⟨fun _ _ _ _ _ _ _ _ r h => by simp [gafferref02_Swap.j0] at h, fun _ _ _ _ _ _ _ r h => by simp [gafferref02_Swap.j1] at h, fun _ _ _ _ _ _ _ _ r h => by simp [gafferref02_Swap.j2] at h, fun _ _ _ _ _ _ _ r h => by simp [gafferref02_Swap.j3] at h, fun _ _ _ _ _ _ _ _ r h => by simp [gafferref02_Swap.j4] at h, fun _ _ _ _ _ _ _ r h => by simp [gafferref02_Swap.j5] at h⟩
 | k + 1 => by
  obtain ⟨ih0, ih1, ih2, ih3, ih4, ih5⟩ := gafferref02_Swap.mono_l k
  refine ⟨?_, ?_, ?_, ?_, ?_, ?_⟩
  ·intro y0 y1 y2 y3 y4 y5 y6 y7
   unfold gafferref02_Swap.j0
   repeat' first
   | (with_reducible exact ih0 _ _ _ _ _ _ _ _)
   | (with_reducible exact ih1 _ _ _ _ _ _ _)
   | (with_reducible exact ih2 _ _ _ _ _ _ _ _)
   | (with_reducible exact ih3 _ _ _ _ _ _ _)
   | (with_reducible exact ih4 _ _ _ _ _ _ _ _)
   | (with_reducible exact ih5 _ _ _ _ _ _ _)
   | (with_reducible exact gafferref02_find.mono _ _ _ _ _)
   | (with_reducible exact gafferref02_ready.mono _ _ _ _)
   | (with_reducible exact gafferref02_with.mono _ _ _ _ _ _ _)
   | (with_reducible exact gafferref02_without.mono _ _ _ _ _)
   | (with_reducible exact LeO.refl _)
   | (with_reducible exact LeO.none _)
   | (with_reducible refine LeO.ite ?_ ?_)
   | (with_reducible refine LeO.bind ?_ (fun _ => ?_))
   | exact ih0 _ _ _ _ _ _ _ _
   | exact ih1 _ _ _ _ _ _ _
   | exact ih2 _ _ _ _ _ _ _ _
   | exact ih3 _ _ _ _ _ _ _
   | exact ih4 _ _ _ _ _ _ _ _
   | exact ih5 _ _ _ _ _ _ _
   | exact gafferref02_find.mono _ _ _ _ _
   | exact gafferref02_ready.mono _ _ _ _
   | exact gafferref02_with.mono _ _ _ _ _ _ _
   | exact gafferref02_without.mono _ _ _ _ _
   | exact LeO.none _
   | refine LeO.ite ?_ ?_
   | refine LeO.bind ?_ (fun _ => ?_)
  ·intro y0 y1 y2 y3 y4 y5 y6
   unfold gafferref02_Swap.j1
   repeat' first
   | (with_reducible exact ih0 _ _ _ _ _ _ _ _)
   | (with_reducible exact ih1 _ _ _ _ _ _ _)
   | (with_reducible exact ih2 _ _ _ _ _ _ _ _)
   | (with_reducible exact ih3 _ _ _ _ _ _ _)
   | (with_reducible exact ih4 _ _ _ _ _ _ _ _)
   | (with_reducible exact ih5 _ _ _ _ _ _ _)
   | (with_reducible exact gafferref02_find.mono _ _ _ _ _)
   | (with_reducible exact gafferref02_ready.mono _ _ _ _)
   | (with_reducible exact gafferref02_with.mono _ _ _ _ _ _ _)
   | (with_reducible exact gafferref02_without.mono _ _ _ _ _)
   | (with_reducible exact LeO.refl _)
   | (with_reducible exact LeO.none _)
   | (with_reducible refine LeO.ite ?_ ?_)
   | (with_reducible refine LeO.bind ?_ (fun _ => ?_))
   | exact ih0 _ _ _ _ _ _ _ _
   | exact ih1 _ _ _ _ _ _ _
   | exact ih2 _ _ _ _ _ _ _ _
   | exact ih3 _ _ _ _ _ _ _
   | exact ih4 _ _ _ _ _ _ _ _
   | exact ih5 _ _ _ _ _ _ _
   | exact gafferref02_find.mono _ _ _ _ _
   | exact gafferref02_ready.mono _ _ _ _
   | exact gafferref02_with.mono _ _ _ _ _ _ _
   | exact gafferref02_without.mono _ _ _ _ _
   | exact LeO.none _
   | refine LeO.ite ?_ ?_
   | refine LeO.bind ?_ (fun _ => ?_)
  ·intro y0 y1 y2 y3 y4 y5 y6 y7
   unfold gafferref02_Swap.j2
   repeat' first
   | (with_reducible exact ih0 _ _ _ _ _ _ _ _)
   | (with_reducible exact ih1 _ _ _ _ _ _ _)
   | (with_reducible exact ih2 _ _ _ _ _ _ _ _)
   | (with_reducible exact ih3 _ _ _ _ _ _ _)
   | (with_reducible exact ih4 _ _ _ _ _ _ _ _)
   | (with_reducible exact ih5 _ _ _ _ _ _ _)
   | (with_reducible exact gafferref02_find.mono _ _ _ _ _)
   | (with_reducible exact gafferref02_ready.mono _ _ _ _)
   | (with_reducible exact gafferref02_with.mono _ _ _ _ _ _ _)
   | (with_reducible exact gafferref02_without.mono _ _ _ _ _)
   | (with_reducible exact LeO.refl _)
   | (with_reducible exact LeO.none _)
   | (with_reducible refine LeO.ite ?_ ?_)
   | (with_reducible refine LeO.bind ?_ (fun _ => ?_))
   | exact ih0 _ _ _ _ _ _ _ _
   | exact ih1 _ _ _ _ _ _ _
   | exact ih2 _ _ _ _ _ _ _ _
   | exact ih3 _ _ _ _ _ _ _
   | exact ih4 _ _ _ _ _ _ _ _
   | exact ih5 _ _ _ _ _ _ _
   | exact gafferref02_find.mono _ _ _ _ _
   | exact gafferref02_ready.mono _ _ _ _
   | exact gafferref02_with.mono _ _ _ _ _ _ _
   | exact gafferref02_without.mono _ _ _ _ _
   | exact LeO.none _
   | refine LeO.ite ?_ ?_
   | refine LeO.bind ?_ (fun _ => ?_)
  ·intro y0 y1 y2 y3 y4 y5 y6
   unfold gafferref02_Swap.j3
   repeat' first
   | (with_reducible exact ih0 _ _ _ _ _ _ _ _)
   | (with_reducible exact ih1 _ _ _ _ _ _ _)
   | (with_reducible exact ih2 _ _ _ _ _ _ _ _)
   | (with_reducible exact ih3 _ _ _ _ _ _ _)
   | (with_reducible exact ih4 _ _ _ _ _ _ _ _)
   | (with_reducible exact ih5 _ _ _ _ _ _ _)
   | (with_reducible exact gafferref02_find.mono _ _ _ _ _)
   | (with_reducible exact gafferref02_ready.mono _ _ _ _)
   | (with_reducible exact gafferref02_with.mono _ _ _ _ _ _ _)
   | (with_reducible exact gafferref02_without.mono _ _ _ _ _)
   | (with_reducible exact LeO.refl _)
   | (with_reducible exact LeO.none _)
   | (with_reducible refine LeO.ite ?_ ?_)
   | (with_reducible refine LeO.bind ?_ (fun _ => ?_))
   | exact ih0 _ _ _ _ _ _ _ _
   | exact ih1 _ _ _ _ _ _ _
   | exact ih2 _ _ _ _ _ _ _ _
   | exact ih3 _ _ _ _ _ _ _
   | exact ih4 _ _ _ _ _ _ _ _
   | exact ih5 _ _ _ _ _ _ _
   | exact gafferref02_find.mono _ _ _ _ _
   | exact gafferref02_ready.mono _ _ _ _
   | exact gafferref02_with.mono _ _ _ _ _ _ _
   | exact gafferref02_without.mono _ _ _ _ _
   | exact LeO.none _
   | refine LeO.ite ?_ ?_
   | refine LeO.bind ?_ (fun _ => ?_)
  ·intro y0 y1 y2 y3 y4 y5 y6 y7
   unfold gafferref02_Swap.j4
   repeat' first
   | (with_reducible exact ih0 _ _ _ _ _ _ _ _)
   | (with_reducible exact ih1 _ _ _ _ _ _ _)
   | (with_reducible exact ih2 _ _ _ _ _ _ _ _)
   | (with_reducible exact ih3 _ _ _ _ _ _ _)
   | (with_reducible exact ih4 _ _ _ _ _ _ _ _)
   | (with_reducible exact ih5 _ _ _ _ _ _ _)
   | (with_reducible exact gafferref02_find.mono _ _ _ _ _)
   | (with_reducible exact gafferref02_ready.mono _ _ _ _)
   | (with_reducible exact gafferref02_with.mono _ _ _ _ _ _ _)
   | (with_reducible exact gafferref02_without.mono _ _ _ _ _)
   | (with_reducible exact LeO.refl _)
   | (with_reducible exact LeO.none _)
   | (with_reducible refine LeO.ite ?_ ?_)
   | (with_reducible refine LeO.bind ?_ (fun _ => ?_))
   | exact ih0 _ _ _ _ _ _ _ _
   | exact ih1 _ _ _ _ _ _ _
   | exact ih2 _ _ _ _ _ _ _ _
   | exact ih3 _ _ _ _ _ _ _
   | exact ih4 _ _ _ _ _ _ _ _
   | exact ih5 _ _ _ _ _ _ _
   | exact gafferref02_find.mono _ _ _ _ _
   | exact gafferref02_ready.mono _ _ _ _
   | exact gafferref02_with.mono _ _ _ _ _ _ _
   | exact gafferref02_without.mono _ _ _ _ _
   | exact LeO.none _
   | refine LeO.ite ?_ ?_
   | refine LeO.bind ?_ (fun _ => ?_)
  ·intro y0 y1 y2 y3 y4 y5 y6
   unfold gafferref02_Swap.j5
   repeat' first
   | (with_reducible exact ih0 _ _ _ _ _ _ _ _)
   | (with_reducible exact ih1 _ _ _ _ _ _ _)
   | (with_reducible exact ih2 _ _ _ _ _ _ _ _)
   | (with_reducible exact ih3 _ _ _ _ _ _ _)
   | (with_reducible exact ih4 _ _ _ _ _ _ _ _)
   | (with_reducible exact ih5 _ _ _ _ _ _ _)
   | (with_reducible exact gafferref02_find.mono _ _ _ _ _)
   | (with_reducible exact gafferref02_ready.mono _ _ _ _)
   | (with_reducible exact gafferref02_with.mono _ _ _ _ _ _ _)
   | (with_reducible exact gafferref02_without.mono _ _ _ _ _)
   | (with_reducible exact LeO.refl _)
   | (with_reducible exact LeO.none _)
   | (with_reducible refine LeO.ite ?_ ?_)
   | (with_reducible refine LeO.bind ?_ (fun _ => ?_))
   | exact ih0 _ _ _ _ _ _ _ _
   | exact ih1 _ _ _ _ _ _ _
   | exact ih2 _ _ _ _ _ _ _ _
   | exact ih3 _ _ _ _ _ _ _
   | exact ih4 _ _ _ _ _ _ _ _
   | exact ih5 _ _ _ _ _ _ _
   | exact gafferref02_find.mono _ _ _ _ _
   | exact gafferref02_ready.mono _ _ _ _
   | exact gafferref02_with.mono _ _ _ _ _ _ _
   | exact gafferref02_without.mono _ _ _ _ _
   | exact LeO.none _
   | refine LeO.ite ?_ ?_
   | refine LeO.bind ?_ (fun _ => ?_)
theorem gafferref02_Swap.mono : ∀ a0 a1 a2 a3 a4 k, LeO (gafferref02_Swap.f k a0 a1 a2 a3 a4) (gafferref02_Swap.f (k + 1) a0 a1 a2 a3 a4) := by
 intro a0 a1 a2 a3 a4 k
 obtain ⟨ih0, ih1, ih2, ih3, ih4, ih5⟩ := gafferref02_Swap.mono_l k
 unfold gafferref02_Swap.f
 repeat' first
   | (with_reducible exact ih0 _ _ _ _ _ _ _ _)
   | (with_reducible exact ih1 _ _ _ _ _ _ _)
   | (with_reducible exact ih2 _ _ _ _ _ _ _ _)
   | (with_reducible exact ih3 _ _ _ _ _ _ _)
   | (with_reducible exact ih4 _ _ _ _ _ _ _ _)
   | (with_reducible exact ih5 _ _ _ _ _ _ _)
   | (with_reducible exact gafferref02_find.mono _ _ _ _ _)
   | (with_reducible exact gafferref02_ready.mono _ _ _ _)
   | (with_reducible exact gafferref02_with.mono _ _ _ _ _ _ _)
   | (with_reducible exact gafferref02_without.mono _ _ _ _ _)
   | (with_reducible exact LeO.refl _)
   | (with_reducible exact LeO.none _)
   | (with_reducible refine LeO.ite ?_ ?_)
   | (with_reducible refine LeO.bind ?_ (fun _ => ?_))
   | exact ih0 _ _ _ _ _ _ _ _
   | exact ih1 _ _ _ _ _ _ _
   | exact ih2 _ _ _ _ _ _ _ _
   | exact ih3 _ _ _ _ _ _ _
   | exact ih4 _ _ _ _ _ _ _ _
   | exact ih5 _ _ _ _ _ _ _
   | exact gafferref02_find.mono _ _ _ _ _
   | exact gafferref02_ready.mono _ _ _ _
   | exact gafferref02_with.mono _ _ _ _ _ _ _
   | exact gafferref02_without.mono _ _ _ _ _
   | exact LeO.none _
   | refine LeO.ite ?_ ?_
   | refine LeO.bind ?_ (fun _ => ?_)
def gafferref02_Swap.T5 : Bool × List (List Nat × List Nat) := (true, [([], []), ([0], [0]), ([1], [1]), ([2], [2]), ([3, 2], [2, 3]), ([2], [2]), ([4, 5, 2], [2, 4, 5]), ([6, 2], [2, 6]), ([7, 2], [2, 7]), ([2], [2]), ([9, 2], [2, 9]), ([2], [2]), ([10, 11, 2], [2, 10, 11]), ([12, 2], [2, 12]), ([13, 2], [2, 13]), ([14, 2], [2, 14]), ([8, 15, 2], [2, 8, 15]), ([2, 16], [2, 16])])
def gafferref02_Swap.B5 : List Nat := [0, 1, 3, 7, 15, 7, 63, 127, 255, 7, 519, 7, 3591, 7687, 15879, 32263, 65535, 131071]
theorem gafferref02_Swap.tab5 : rtab .any (opsOf Try.f25 5) = gafferref02_Swap.T5 := by kernel_rfl
theorem gafferref02_Swap.bits5 : waitsOk gafferref02_Swap.T5.2 gafferref02_Swap.B5 = true := by kernel_rfl
set_option maxHeartbeats 80000000 in
set_option maxRecDepth 100000 in
theorem gafferref02_Swap.calls (k : Nat) (A0_0 : Option Addr) (c0_0 : Nat) (l0_0 : List (S35)) (a0_1 : Bool) (a0_2 : Int) (a1 : ByteArray) (a2 : ByteArray) (r1 : List (S35)) (r2 : Bool) (r3 : Int) (r4 : Int) (w : World) (hr0_0 : Kd.C k35 w A0_0 l0_0.length l0_0) (hc0_0 : l0_0.length ≤ c0_0) (h : gafferref02_Swap.f k l0_0 a0_1 a0_2 a1 a2 = some (r1, r2, r3, r4)) :
  Calls Try.prog 25 #[.agg #[.slice A0_0 l0_0.length c0_0, .bool a0_1, .int .i64 a0_2], .string a1, .string a2] w fun e w' => ∃ v0_ : Value, e = .returned (.tuple #[.agg #[v0_, .bool r2, .int .i64 r3], .int .i64 r4]) ∧ Kd.R k35 35 w' w.heap.size (fun _ => True) v0_ r1 ∧ Below w.heap.size w w' := by
 have hu24 := Try.underlying24
 have hu35 := Try.underlying35
 have HR0_0 := Aside0.mk hr0_0
 have HC0_0 := Aside0.mk hc0_0
 clear hr0_0 hc0_0
 have HB := Aside0.mk (Below.refl w.heap.size w)
 have H : ((gafferref02_ready.f k l0_0 a0_1 a0_2).bind fun t317 => ((gafferref02_find.f k l0_0 a0_1 a0_2 a1).bind fun t318 => (if t317 = 0 then (gafferref02_Swap.j0 k a1 a2 t317 t318 (decide (t318 < 0)) l0_0 a0_1 a0_2) else (gafferref02_Swap.j0 k a1 a2 t317 t318 false l0_0 a0_1 a0_2)))) = some (r1, r2, r3, r4) := h
 clear h
 replace H := Option.bind_eq_some_iff.mp H
 obtain ⟨t317, A40, H⟩ := H
 replace H : ((gafferref02_find.f k l0_0 a0_1 a0_2 a1).bind fun t318 => (if t317 = 0 then (gafferref02_Swap.j0 k a1 a2 t317 t318 (decide (t318 < 0)) l0_0 a0_1 a0_2) else (gafferref02_Swap.j0 k a1 a2 t317 t318 false l0_0 a0_1 a0_2))) = some (r1, r2, r3, r4) := H
 have A4 := Aside0.mk A40
 clear A40
 replace H := Option.bind_eq_some_iff.mp H
 obtain ⟨t318, A50, H⟩ := H
 replace H : (if t317 = 0 then (gafferref02_Swap.j0 k a1 a2 t317 t318 (decide (t318 < 0)) l0_0 a0_1 a0_2) else (gafferref02_Swap.j0 k a1 a2 t317 t318 false l0_0 a0_1 a0_2)) = some (r1, r2, r3, r4) := H
 have A5 := Aside0.mk A50
 clear A50
 have HC6 := Aside0.mk H
 clear H
 go_enter Try.func25, Try.ntmps25
 go_upto_region 3 with (first | ((with_reducible refine gate_dst (N := 3) rfl ?_); (try (refine gate_guard (by rfl) ?_; dsimp only)); refine box_event ?hg (N := 3) ?hd (cs := #[.slice A0_0 l0_0.length c0_0, .bool a0_1, .int .i64 a0_2]) (t := 24) ?hr ?_; (case hd => rfl); (case hg => rfl); (case hr => first | (go_simp; done) | (go_simp; rfl)); intro gb315 hg w7 hbox hb; have BK315 := Aside0.mk (hbox); have GW315 := Aside0.mk (bs_0 hg HB); have GE315 := Aside0.mk (bs_0 hg HB); replace HB := Aside0.mk (below_step (bl_ HB) hb); clear hb hbox hg) | ((with_reducible refine gate_dst (N := 6) rfl ?_); (try (refine gate_guard (by rfl) ?_; dsimp only)); refine box_event ?hg (N := 6) ?hd (cs := #[.slice none 0 0, .bool false, .int .i64 0]) (t := 24) ?hr ?_; (case hd => rfl); (case hg => rfl); (case hr => first | (go_simp; done) | (go_simp; rfl)); intro gb316 hg w8 hbox hb; have BK316 := Aside0.mk (hbox); have GW316 := Aside0.mk (bs_1 hg HB GE315); have GE316 := Aside0.mk (bs_1 hg HB GE315); replace HB := Aside0.mk (below_step (bl_1 HB GE315) hb); have NB315_316 := Aside0.mk (nb_ hg BK315); have NB316_315 := Aside0.mk (nc_ hg BK315); replace BK315 := Aside0.mk (bb_ BK315 hb); clear hb hbox hg; have hnb9 := NB315_316.out; have hnc9 := NB316_315.out; obtain ⟨hcz10_0, hcz10_1, hcz10_2, hfz10_0, hfz10_1, hfz10_2⟩ := c3_ BK315) | ((with_reducible refine gate_callee (f := 36) rfl ?_); refine goesL_ (some 14) rfl rfl Try.func36 (by kernel_rfl) rfl #[.agg #[.slice A0_0 l0_0.length c0_0, .bool a0_1, .int .i64 a0_2]] rfl (ar_) ?_; (with_reducible refine (gafferref02_ready.calls k _ _ l0_0 a0_1 a0_2 t317 _ ?side1 ?side2 A4.out).mono ?_); (case side1 => repeat (first | exact (Kd.C_below HR0_0.out HB.out) | (with_reducible refine Kd.C_alloc ?_ _) | (with_reducible refine Kd.C_drewN ?_ _) | (with_reducible refine Kd.C_drew ?_))); (case side2 => exact HC0_0.out); rintro e w11 ⟨rfl, hb⟩; refine ⟨_, rfl, ?_⟩; replace BK315 := Aside0.mk (bb_ BK315 hb); replace BK316 := Aside0.mk (bb_ BK316 hb); replace HB := Aside0.mk (below_step (bl_2 HB GE315 GE316) hb); (try clear hb); (try clear hb2); (try clear hk); (try clear hi); obtain ⟨hcz12_0, hcz12_1, hcz12_2, hfz12_0, hfz12_1, hfz12_2⟩ := c3_ BK315) | ((with_reducible refine gate_callee (f := 37) rfl ?_); refine goesL_ (some 17) rfl rfl Try.func37 (by kernel_rfl) rfl #[.agg #[.slice A0_0 l0_0.length c0_0, .bool a0_1, .int .i64 a0_2], .string a1] rfl (ar_) ?_; (with_reducible refine (gafferref02_find.calls k _ _ l0_0 a0_1 a0_2 a1 t318 _ ?side1 ?side2 A5.out).mono ?_); (case side1 => repeat (first | exact (Kd.C_below HR0_0.out HB.out) | (with_reducible refine Kd.C_alloc ?_ _) | (with_reducible refine Kd.C_drewN ?_ _) | (with_reducible refine Kd.C_drew ?_))); (case side2 => exact HC0_0.out); rintro e w13 ⟨rfl, hb⟩; refine ⟨_, rfl, ?_⟩; replace BK315 := Aside0.mk (bb_ BK315 hb); replace BK316 := Aside0.mk (bb_ BK316 hb); replace HB := Aside0.mk (below_step (bl_2 HB GE315 GE316) hb); (try clear hb); (try clear hb2); (try clear hk); (try clear hi)))
 (try simp only [Act.put, List.setIfInBounds_toArray, List.set_cons_zero, List.set_cons_succ])
 go_cut [23] (fun v23 wc => ∃ (kq : Nat) (x23_5 : Bool), v23 = .bool x23_5 ∧ Aside0 (gafferref02_Swap.j0 kq a1 a2 t317 t318 x23_5 l0_0 a0_1 a0_2 = some (r1, r2, r3, r4)) ∧ Aside0 (kq ≤ k) ∧ Aside0 (wc.heap[gb315]? = some (.cells #[(.slice A0_0 l0_0.length c0_0), .bool a0_1, .int .i64 a0_2] 24 (0, 0))) ∧ Aside0 (wc.heap[gb316]? = some (.cells #[(.slice none 0 0), .bool false, .int .i64 0] 24 (0, 0))) ∧ Aside0 (Below w.heap.size w wc))
 case first =>
  have H := HC6.out
  clear HC6
  by_cases c14 : t317 = 0
  ·rw [if_pos c14] at H
   have c14b0 : (t317 == 0) = true := beq_iff_eq.mpr c14
   have c14b1 : (t317 != 0) = false := bne_eq_false_iff_eq.mpr c14
   clear c14
   (first | rw [c14b0] | (simp only [i64_w, i32_w]; rw [c14b0]) | skip)
   have H' := Aside0.mk H
   clear H
   go_wp2
   go_meet
   case rel => exact ⟨_, (decide (t318 < 0)), (by first | rfl | (simp; done) | (simp [*]; done)), H', ⟨by first | omega | exact Nat.le_refl _⟩, ⟨bk_ BK315⟩, ⟨bk_ BK316⟩, ⟨bl_2 HB GE315 GE316⟩⟩
  ·rw [if_neg c14] at H
   have c14b0 : (t317 == 0) = false := beq_eq_false_iff_ne.mpr c14
   have c14b1 : (t317 != 0) = true := bne_iff_ne.mpr c14
   (first | rw [c14b0] | (simp only [i64_w, i32_w]; rw [c14b0]) | skip)
   have H' := Aside0.mk H
   clear H
   go_wp2
   go_meet
   case rel => exact ⟨_, (false), (by first | rfl | (simp; done) | (simp [*]; done)), H', ⟨by first | omega | exact Nat.le_refl _⟩, ⟨bk_ BK315⟩, ⟨bk_ BK316⟩, ⟨bl_2 HB GE315 GE316⟩⟩
 case rest =>
  clear HC6
  try clear c1
  try clear c2
  try clear p2
  try clear c3
  try clear c9
  try clear c14
  try clear c14b0
  try clear c14b1
  try clear hcz10_0
  try clear hcz10_1
  try clear hcz10_2
  try clear hcz12_0
  try clear hcz12_1
  try clear hcz12_2
  try clear hfz10_0
  try clear hfz10_1
  try clear hfz10_2
  try clear hfz12_0
  try clear hfz12_1
  try clear hfz12_2
  obtain ⟨kq, x23_5, rfl, HA, HJ5, BK315, BK316, HB⟩ := hcut
  cases kq with
  | zero => exact absurd HA.out (by simp [gafferref02_Swap.j0])
  | succ kj5 =>
   have H := HA.out
   clear HA
   simp only [gafferref02_Swap.j0] at H
   have HC15 := Aside0.mk H
   clear H
   go_upto_if 23 with (fail)
   go_cut [8] (fun v8 wc => ∃ (kq : Nat) (x8_14 : Int), v8 = .int .i64 x8_14 ∧ Aside0 (gafferref02_Swap.j1 kq a1 a2 x8_14 t318 l0_0 a0_1 a0_2 = some (r1, r2, r3, r4)) ∧ Aside0 (kq ≤ kj5) ∧ Aside0 (wc.heap[gb315]? = some (.cells #[(.slice A0_0 l0_0.length c0_0), .bool a0_1, .int .i64 a0_2] 24 (0, 0))) ∧ Aside0 (wc.heap[gb316]? = some (.cells #[(.slice none 0 0), .bool false, .int .i64 0] 24 (0, 0))) ∧ Aside0 (Below w.heap.size w wc))
   case first =>
    have H := HC15.out
    clear HC15
    by_cases c16 : x23_5 = true
    ·subst c16
     have H1 : (gafferref02_Swap.j1 kj5 a1 a2 6 t318 l0_0 a0_1 a0_2) = some (r1, r2, r3, r4) := by rw [if_pos rfl] at H; exact H
     clear H
     have H := H1
     clear H1
     have H' := Aside0.mk H
     clear H
     go_wp2
     go_meet
     case rel => exact ⟨_, (6), (by first | rfl | (simp; done) | (simp [*]; done)), H', ⟨by have := HJ5.out; first | omega | exact Nat.le_refl _⟩, ⟨bk_ BK315⟩, ⟨bk_ BK316⟩, ⟨bl_2 HB GE315 GE316⟩⟩
    ·replace c16 := Bool.eq_false_iff.mpr c16
     subst c16
     have H1 : (gafferref02_Swap.j1 kj5 a1 a2 t317 t318 l0_0 a0_1 a0_2) = some (r1, r2, r3, r4) := by rw [if_neg (show ¬ (false = true) by decide)] at H; exact H
     clear H
     have H := H1
     clear H1
     have H' := Aside0.mk H
     clear H
     go_wp2
     go_meet
     case rel => exact ⟨_, (t317), (by first | rfl | (simp; done) | (simp [*]; done)), H', ⟨by have := HJ5.out; first | omega | exact Nat.le_refl _⟩, ⟨bk_ BK315⟩, ⟨bk_ BK316⟩, ⟨bl_2 HB GE315 GE316⟩⟩
   case rest =>
    clear HC15
    try clear c1
    try clear c2
    try clear p2
    try clear c3
    try clear c9
    try clear c14
    try clear c14b0
    try clear c14b1
    try clear c16
    try clear hcz10_0
    try clear hcz10_1
    try clear hcz10_2
    try clear hcz12_0
    try clear hcz12_1
    try clear hcz12_2
    try clear hfz10_0
    try clear hfz10_1
    try clear hfz10_2
    try clear hfz12_0
    try clear hfz12_1
    try clear hfz12_2
    try clear p2
    obtain ⟨kq, x8_14, rfl, HA, HJ14, BK315, BK316, HB⟩ := hcut
    cases kq with
    | zero => exact absurd HA.out (by simp [gafferref02_Swap.j1])
    | succ kj14 =>
     have H := HA.out
     clear HA
     simp only [gafferref02_Swap.j1] at H
     have HC17 := Aside0.mk H
     clear H
     go_upto_region 5 with (fail)
     go_cut [41] (fun v41 wc => ∃ (kq : Nat) (x41_16 : Bool), v41 = .bool x41_16 ∧ Aside0 (gafferref02_Swap.j2 kq a1 a2 x8_14 t318 x41_16 l0_0 a0_1 a0_2 = some (r1, r2, r3, r4)) ∧ Aside0 (kq ≤ kj14) ∧ Aside0 (wc.heap[gb315]? = some (.cells #[(.slice A0_0 l0_0.length c0_0), .bool a0_1, .int .i64 a0_2] 24 (0, 0))) ∧ Aside0 (wc.heap[gb316]? = some (.cells #[(.slice none 0 0), .bool false, .int .i64 0] 24 (0, 0))) ∧ Aside0 (Below w.heap.size w wc))
     case first =>
      have H := HC17.out
      clear HC17
      by_cases c18 : x8_14 = 0
      ·rw [if_pos c18] at H
       have c18b0 : (x8_14 == 0) = true := beq_iff_eq.mpr c18
       have c18b1 : (x8_14 != 0) = false := bne_eq_false_iff_eq.mpr c18
       clear c18
       (first | rw [c18b0] | (simp only [i64_w, i32_w]; rw [c18b0]) | skip)
       by_cases c19 : 0 ≤ t318
       ·rw [if_pos c19] at H
        have c19b0 : decide (0 ≤ t318) = true := decide_eq_true c19
        clear c19
        by_cases c20 : t318 < (l0_0.length : Int)
        ·rw [if_pos c20] at H
         have c20b0 : decide (t318 < (l0_0.length : Int)) = true := decide_eq_true c20
         clear c20
         have H' := Aside0.mk H
         clear H
         try go_wp2
         have n0_ := Aside0.mk (blk_drew BK315.out)
         have n1_ := Aside0.mk (blk_drew BK316.out)
         have n2_ := Aside0.mk (below_drew1 HB.out)
         clear BK315
         clear BK316
         clear HB
         have BK315 := n0_
         have BK316 := n1_
         have HB := n2_
         clear n0_ n1_ n2_
         have p319 : 0 ≤ (t318 : Int) := of_decide_eq_true (by first | (with_reducible assumption) | assumption)
         have q319 : t318 < (l0_0.length : Int) := of_decide_eq_true (by first | (with_reducible assumption) | assumption)
         obtain ⟨ad319, e319, hx319_0, hx319_1, hx319_2⟩ := at_T35 HR0_0.out t318 p319 q319
         have hw319_2 := hx319_2
         have hw319_1 := hx319_1
         have hw319_0 := hx319_0
         cases e319
         replace hx319_0 := (HB.out.cell (World.block_lt_of_cell? w _ hx319_0)).trans hx319_0
         replace hx319_1 := (HB.out.cell (World.block_lt_of_cell? w _ hx319_1)).trans hx319_1
         replace hx319_2 := (HB.out.cell (World.block_lt_of_cell? w _ hx319_2)).trans hx319_2
         replace p319 := eq_true p319
         replace q319 := eq_true q319
         have p320 : 0 ≤ (t318 : Int) := of_decide_eq_true (by first | (with_reducible assumption) | assumption)
         have q320 : t318 < (l0_0.length : Int) := of_decide_eq_true (by first | (with_reducible assumption) | assumption)
         obtain ⟨ad320, e320, hx320_0, hx320_1, hx320_2⟩ := at_T35 HR0_0.out t318 p320 q320
         have hw320_2 := hx320_2
         have hw320_1 := hx320_1
         have hw320_0 := hx320_0
         obtain rfl : ad319 = ad320 := (by injection e320)
         replace hx320_0 := (HB.out.cell (World.block_lt_of_cell? w _ hx320_0)).trans hx320_0
         replace hx320_1 := (HB.out.cell (World.block_lt_of_cell? w _ hx320_1)).trans hx320_1
         replace hx320_2 := (HB.out.cell (World.block_lt_of_cell? w _ hx320_2)).trans hx320_2
         replace p320 := eq_true p320
         replace q320 := eq_true q320
         refine start_ (n := 18) (S := fun w' => w'.cell? ⟨gb315, 0, none⟩ = some (.slice (some ad319) l0_0.length c0_0) ∧ w'.cell? ⟨gb315, 1, none⟩ = some (.bool a0_1) ∧ w'.cell? ⟨gb315, 2, none⟩ = some (.int .i64 a0_2) ∧ w'.cell? (ad319.add ((t318).toNat * 3)) = some (.string ((rd_T35 l0_0 t318).f0)) ∧ w'.cell? ⟨(ad319.add ((t318).toNat * 3)).block, (ad319.add ((t318).toNat * 3)).off + 1, none⟩ = some (.string ((rd_T35 l0_0 t318).f1)) ∧ w'.cell? ⟨(ad319.add ((t318).toNat * 3)).block, (ad319.add ((t318).toNat * 3)).off + 2, none⟩ = some (.int .i64 ((rd_T35 l0_0 t318).f2)) ∧ w'.cell? (ad319.add ((t318).toNat * 3)) = some (.string ((rd_T35 l0_0 t318).f0)) ∧ w'.cell? ⟨(ad319.add ((t318).toNat * 3)).block, (ad319.add ((t318).toNat * 3)).off + 1, none⟩ = some (.string ((rd_T35 l0_0 t318).f1)) ∧ w'.cell? ⟨(ad319.add ((t318).toNat * 3)).block, (ad319.add ((t318).toNat * 3)).off + 2, none⟩ = some (.int .i64 ((rd_T35 l0_0 t318).f2))) (ds := []) #[false, false, false, false, false, false, false, false, false, false, false, false, false, false, false, false, false, false] (by kernel_rfl) rfl rfl ⟨(blk_cell BK315.out 0).trans rfl, (blk_cell BK315.out 1).trans rfl, (blk_cell BK315.out 2).trans rfl, ((HB.out.cell (World.block_lt_of_cell? w _ hw319_0)).trans hw319_0), ((HB.out.cell (World.block_lt_of_cell? w _ hw319_1)).trans hw319_1), ((HB.out.cell (World.block_lt_of_cell? w _ hw319_2)).trans hw319_2), ((HB.out.cell (World.block_lt_of_cell? w _ hw320_0)).trans hw320_0), ((HB.out.cell (World.block_lt_of_cell? w _ hw320_1)).trans hw320_1), ((HB.out.cell (World.block_lt_of_cell? w _ hw320_2)).trans hw320_2)⟩ (fun hHeld => ?_); refine with_tabW gafferref02_Swap.tab5 gafferref02_Swap.bits5 (fun HT_ HW_ => ?_)
         generalize wc.drew = w21 at BK315 BK316 HB hx319_0 hx319_1 hx319_2 hx320_0 hx320_1 hx320_2 hHeld ⊢
         refine pure_ (i := 0) (N := some 24) (v := ?_) (a' := ?_) #[true, false, false, false, false, false, false, false, false, false, false, false, false, false, false, false, false, false] rfl rfl (any_of HT_.out (by kernel_rfl)) (fun _ _ _ h => h) (Or.inl ⟨by rfl, ?_⟩) ?_ ?_
         rotate_left
         ·intro w'
          go_simp
          with_reducible rfl
         rotate_left
         ·simp only [Act.put, List.setIfInBounds_toArray, List.set_cons_zero, List.set_cons_succ, i64_w, i32_w]
          rfl
         refine pure_ (i := 1) (N := some 25) (v := ?_) (a' := ?_) #[true, true, false, false, false, false, false, false, false, false, false, false, false, false, false, false, false, false] rfl rfl (any_of HT_.out (by kernel_rfl)) (fun _ _ _ h => h) (Or.inl ⟨by rfl, ?_⟩) ?_ ?_
         rotate_left
         ·intro w'
          go_simp
          with_reducible rfl
         rotate_left
         ·simp only [Act.put, List.setIfInBounds_toArray, List.set_cons_zero, List.set_cons_succ, i64_w, i32_w]
          rfl
         refine pure_ (i := 2) (N := some 26) (v := ?_) (a' := ?_) #[true, true, true, false, false, false, false, false, false, false, false, false, false, false, false, false, false, false] rfl rfl (any_of HT_.out (by kernel_rfl)) (fun _ _ _ h => h) (Or.inl ⟨by rfl, ?_⟩) ?_ ?_
         rotate_left
         ·intro w'
          go_simp
          with_reducible rfl
         rotate_left
         ·simp only [Act.put, List.setIfInBounds_toArray, List.set_cons_zero, List.set_cons_succ, i64_w, i32_w]
          rfl
         refine pure_ (i := 3) (N := some 27) (v := ?_) (a' := ?_) #[true, true, true, true, false, false, false, false, false, false, false, false, false, false, false, false, false, false] rfl rfl (any_of HT_.out (by kernel_rfl)) (fun _ _ _ h => h) (Or.inl ⟨by rfl, ?_⟩) ?_ ?_
         rotate_left
         ·intro w'
          go_simp
          with_reducible rfl
         rotate_left
         ·simp only [Act.put, List.setIfInBounds_toArray, List.set_cons_zero, List.set_cons_succ, i64_w, i32_w]
          rfl
         refine pure_ (i := 5) (N := some 29) (v := ?_) (a' := ?_) #[true, true, true, true, false, true, false, false, false, false, false, false, false, false, false, false, false, false] rfl rfl (any_of HT_.out (by kernel_rfl)) (fun _ _ _ h => h) (Or.inl ⟨by rfl, ?_⟩) ?_ ?_
         rotate_left
         ·intro w'
          go_simp
          with_reducible rfl
         rotate_left
         ·simp only [Act.put, List.setIfInBounds_toArray, List.set_cons_zero, List.set_cons_succ, i64_w, i32_w]
          rfl
         refine pure_ (i := 9) (N := some 33) (v := ?_) (a' := ?_) #[true, true, true, true, false, true, false, false, false, true, false, false, false, false, false, false, false, false] rfl rfl (any_of HT_.out (by kernel_rfl)) (fun _ _ _ h => h) (Or.inl ⟨by rfl, ?_⟩) ?_ ?_
         rotate_left
         ·intro w'
          go_simp
          with_reducible rfl
         rotate_left
         ·simp only [Act.put, List.setIfInBounds_toArray, List.set_cons_zero, List.set_cons_succ, i64_w, i32_w]
          rfl
         refine pure_ (i := 11) (N := some 35) (v := ?_) (a' := ?_) #[true, true, true, true, false, true, false, false, false, true, false, true, false, false, false, false, false, false] rfl rfl (any_of HT_.out (by kernel_rfl)) (fun _ _ _ h => h) (Or.inl ⟨by rfl, ?_⟩) ?_ ?_
         rotate_left
         ·intro w'
          go_simp
          with_reducible rfl
         rotate_left
         ·simp only [Act.put, List.setIfInBounds_toArray, List.set_cons_zero, List.set_cons_succ, i64_w, i32_w]
          rfl
         refine take_ (i := 4) (N := some 28) (v := ?_) (a' := ?_) #[true, true, true, true, true, true, false, false, false, true, false, true, false, false, false, false, false, false] rfl rfl (take_ofW HT_.out HW_.out (by kernel_rfl)) (fun _ _ _ h => h) (Or.inl ⟨by rfl, ?_⟩) hHeld ?_ ?_
         rotate_left
         ·rintro w' ⟨s0, s1, s2, s3, s4, s5, s6, s7, s8⟩
          go_simp
          with_reducible rfl
         rotate_left
         ·simp only [Act.put, List.setIfInBounds_toArray, List.set_cons_zero, List.set_cons_succ, i64_w, i32_w]
          rfl
         refine pure_ (i := 6) (N := some 30) (v := ?_) (a' := ?_) #[true, true, true, true, true, true, true, false, false, true, false, true, false, false, false, false, false, false] rfl rfl (any_of HT_.out (by kernel_rfl)) (fun _ _ _ h => h) (Or.inl ⟨by rfl, ?_⟩) ?_ ?_
         rotate_left
         ·intro w'
          go_simp
          with_reducible rfl
         rotate_left
         ·simp only [Act.put, List.setIfInBounds_toArray, List.set_cons_zero, List.set_cons_succ, i64_w, i32_w]
          rfl
         refine pure_ (i := 7) (N := some 31) (v := ?_) (a' := ?_) #[true, true, true, true, true, true, true, true, false, true, false, true, false, false, false, false, false, false] rfl rfl (any_of HT_.out (by kernel_rfl)) (fun _ _ _ h => h) (Or.inl ⟨by rfl, ?_⟩) ?_ ?_
         rotate_left
         ·intro w'
          go_simp
          with_reducible rfl
         rotate_left
         ·simp only [Act.put, List.setIfInBounds_toArray, List.set_cons_zero, List.set_cons_succ, i64_w, i32_w]
          rfl
         refine take_ (i := 8) (N := some 32) (v := ?_) (a' := ?_) #[true, true, true, true, true, true, true, true, true, true, false, true, false, false, false, false, false, false] rfl rfl (take_ofW HT_.out HW_.out (by kernel_rfl)) (fun _ _ _ h => h) (Or.inl ⟨by rfl, ?_⟩) hHeld ?_ ?_
         rotate_left
         ·rintro w' ⟨s0, s1, s2, s3, s4, s5, s6, s7, s8⟩
          go_simp
          with_reducible rfl
         rotate_left
         ·simp only [Act.put, List.setIfInBounds_toArray, List.set_cons_zero, List.set_cons_succ, i64_w, i32_w]
          rfl
         refine take_ (i := 10) (N := some 34) (v := ?_) (a' := ?_) #[true, true, true, true, true, true, true, true, true, true, true, true, false, false, false, false, false, false] rfl rfl (take_ofW HT_.out HW_.out (by kernel_rfl)) (fun _ _ _ h => h) (Or.inl ⟨by rfl, ?_⟩) hHeld ?_ ?_
         rotate_left
         ·rintro w' ⟨s0, s1, s2, s3, s4, s5, s6, s7, s8⟩
          go_simp
          with_reducible rfl
         rotate_left
         ·simp only [Act.put, List.setIfInBounds_toArray, List.set_cons_zero, List.set_cons_succ, i64_w, i32_w]
          rfl
         refine pure_ (i := 12) (N := some 36) (v := ?_) (a' := ?_) #[true, true, true, true, true, true, true, true, true, true, true, true, true, false, false, false, false, false] rfl rfl (any_of HT_.out (by kernel_rfl)) (fun _ _ _ h => h) (Or.inl ⟨by rfl, ?_⟩) ?_ ?_
         rotate_left
         ·intro w'
          go_simp
          with_reducible rfl
         rotate_left
         ·simp only [Act.put, List.setIfInBounds_toArray, List.set_cons_zero, List.set_cons_succ, i64_w, i32_w]
          rfl
         refine pure_ (i := 13) (N := some 37) (v := ?_) (a' := ?_) #[true, true, true, true, true, true, true, true, true, true, true, true, true, true, false, false, false, false] rfl rfl (any_of HT_.out (by kernel_rfl)) (fun _ _ _ h => h) (Or.inl ⟨by rfl, ?_⟩) ?_ ?_
         rotate_left
         ·intro w'
          go_simp
          with_reducible rfl
         rotate_left
         ·simp only [Act.put, List.setIfInBounds_toArray, List.set_cons_zero, List.set_cons_succ, i64_w, i32_w]
          rfl
         refine take_ (i := 14) (N := some 38) (v := ?_) (a' := ?_) #[true, true, true, true, true, true, true, true, true, true, true, true, true, true, true, false, false, false] rfl rfl (take_ofW HT_.out HW_.out (by kernel_rfl)) (fun _ _ _ h => h) (Or.inl ⟨by rfl, ?_⟩) hHeld ?_ ?_
         rotate_left
         ·rintro w' ⟨s0, s1, s2, s3, s4, s5, s6, s7, s8⟩
          go_simp
          with_reducible rfl
         rotate_left
         ·simp only [Act.put, List.setIfInBounds_toArray, List.set_cons_zero, List.set_cons_succ, i64_w, i32_w]
          rfl
         refine pure_ (i := 15) (N := some 39) (v := ?_) (a' := ?_) #[true, true, true, true, true, true, true, true, true, true, true, true, true, true, true, true, false, false] rfl rfl (any_of HT_.out (by kernel_rfl)) (fun _ _ _ h => h) (Or.inl ⟨by rfl, ?_⟩) ?_ ?_
         rotate_left
         ·intro w'
          go_simp
          with_reducible rfl
         rotate_left
         ·simp only [Act.put, List.setIfInBounds_toArray, List.set_cons_zero, List.set_cons_succ, i64_w, i32_w]
          rfl
         refine pure_ (i := 16) (N := some 40) (v := ?_) (a' := ?_) #[true, true, true, true, true, true, true, true, true, true, true, true, true, true, true, true, true, false] rfl rfl (any_of HT_.out (by kernel_rfl)) (fun _ _ _ h => h) (Or.inl ⟨by rfl, ?_⟩) ?_ ?_
         rotate_left
         ·intro w'
          go_simp
          with_reducible rfl
         rotate_left
         ·simp only [Act.put, List.setIfInBounds_toArray, List.set_cons_zero, List.set_cons_succ, i64_w, i32_w]
          rfl
         refine pure_ (i := 17) (N := some 41) (v := ?_) (a' := ?_) #[true, true, true, true, true, true, true, true, true, true, true, true, true, true, true, true, true, true] rfl rfl (any_of HT_.out (by kernel_rfl)) (fun _ _ _ h => h) (Or.inl ⟨by rfl, ?_⟩) ?_ ?_
         rotate_left
         ·intro w'
          go_simp
          with_reducible rfl
         rotate_left
         ·simp only [Act.put, List.setIfInBounds_toArray, List.set_cons_zero, List.set_cons_succ, i64_w, i32_w]
          rfl
         refine done_ (done_of HT_.out (by kernel_rfl)) ?_
         try go_wp2
         go_meet
         case rel => exact ⟨_, (decide (((rd_T35 l0_0 t318).f2) < (((rd_T35 l0_0 t318).f1).size : Int))), (by first | rfl | (simp; done) | (simp [*]; done)), H', ⟨by have := HJ5.out; have := HJ14.out; first | omega | exact Nat.le_refl _⟩, ⟨bk_ BK315⟩, ⟨bk_ BK316⟩, ⟨bl_2 HB GE315 GE316⟩⟩
        ·rw [if_neg c20] at H
         exact absurd H (by simp)
       ·rw [if_neg c19] at H
        exact absurd H (by simp)
      ·rw [if_neg c18] at H
       have c18b0 : (x8_14 == 0) = false := beq_eq_false_iff_ne.mpr c18
       have c18b1 : (x8_14 != 0) = true := bne_iff_ne.mpr c18
       (first | rw [c18b0] | (simp only [i64_w, i32_w]; rw [c18b0]) | skip)
       have H' := Aside0.mk H
       clear H
       try go_wp2
       have n0_ := Aside0.mk (blk_drew BK315.out)
       have n1_ := Aside0.mk (blk_drew BK316.out)
       have n2_ := Aside0.mk (below_drew1 HB.out)
       clear BK315
       clear BK316
       clear HB
       have BK315 := n0_
       have BK316 := n1_
       have HB := n2_
       clear n0_ n1_ n2_
       refine start_ (n := 18) (S := fun w' => True) (ds := []) #[false, false, false, false, false, false, false, false, false, false, false, false, false, false, false, false, false, false] (by kernel_rfl) rfl rfl trivial (fun hHeld => ?_); refine with_tabW gafferref02_Swap.tab5 gafferref02_Swap.bits5 (fun HT_ HW_ => ?_)
       generalize wc.drew = w22 at BK315 BK316 HB hHeld ⊢
       refine pure_ (i := 0) (N := some 24) (v := ?_) (a' := ?_) #[true, false, false, false, false, false, false, false, false, false, false, false, false, false, false, false, false, false] rfl rfl (any_of HT_.out (by kernel_rfl)) (fun _ _ _ h => h) (Or.inl ⟨by rfl, ?_⟩) ?_ ?_
       rotate_left
       ·intro w'
        go_simp
        with_reducible rfl
       rotate_left
       ·simp only [Act.put, List.setIfInBounds_toArray, List.set_cons_zero, List.set_cons_succ, i64_w, i32_w]
        rfl
       refine pure_ (i := 1) (N := some 25) (v := ?_) (a' := ?_) #[true, true, false, false, false, false, false, false, false, false, false, false, false, false, false, false, false, false] rfl rfl (any_of HT_.out (by kernel_rfl)) (fun _ _ _ h => h) (Or.inl ⟨by rfl, ?_⟩) ?_ ?_
       rotate_left
       ·intro w'
        go_simp
        with_reducible rfl
       rotate_left
       ·simp only [Act.put, List.setIfInBounds_toArray, List.set_cons_zero, List.set_cons_succ, i64_w, i32_w]
        rfl
       refine pure_ (i := 2) (N := some 26) (v := ?_) (a' := ?_) #[true, true, true, false, false, false, false, false, false, false, false, false, false, false, false, false, false, false] rfl rfl (any_of HT_.out (by kernel_rfl)) (fun _ _ _ h => h) (Or.inl ⟨by rfl, ?_⟩) ?_ ?_
       rotate_left
       ·intro w'
        go_simp
        with_reducible rfl
       rotate_left
       ·simp only [Act.put, List.setIfInBounds_toArray, List.set_cons_zero, List.set_cons_succ, i64_w, i32_w]
        rfl
       refine pure_ (i := 3) (N := some 27) (v := undef) (a' := ?_) #[true, true, true, true, false, false, false, false, false, false, false, false, false, false, false, false, false, false] rfl rfl (any_of HT_.out (by kernel_rfl)) (fun _ _ _ h => h) (Or.inr ⟨by rfl, rfl⟩) ?_ ?_
       rotate_left
       ·simp only [Act.put, List.setIfInBounds_toArray, List.set_cons_zero, List.set_cons_succ, i64_w, i32_w]
        rfl
       refine pure_ (i := 4) (N := some 28) (v := undef) (a' := ?_) #[true, true, true, true, true, false, false, false, false, false, false, false, false, false, false, false, false, false] rfl rfl (any_of HT_.out (by kernel_rfl)) (fun _ _ _ h => h) (Or.inr ⟨by rfl, rfl⟩) ?_ ?_
       rotate_left
       ·simp only [Act.put, List.setIfInBounds_toArray, List.set_cons_zero, List.set_cons_succ, i64_w, i32_w]
        rfl
       refine pure_ (i := 5) (N := some 29) (v := undef) (a' := ?_) #[true, true, true, true, true, true, false, false, false, false, false, false, false, false, false, false, false, false] rfl rfl (any_of HT_.out (by kernel_rfl)) (fun _ _ _ h => h) (Or.inr ⟨by rfl, rfl⟩) ?_ ?_
       rotate_left
       ·simp only [Act.put, List.setIfInBounds_toArray, List.set_cons_zero, List.set_cons_succ, i64_w, i32_w]
        rfl
       refine pure_ (i := 6) (N := some 30) (v := undef) (a' := ?_) #[true, true, true, true, true, true, true, false, false, false, false, false, false, false, false, false, false, false] rfl rfl (any_of HT_.out (by kernel_rfl)) (fun _ _ _ h => h) (Or.inr ⟨by rfl, rfl⟩) ?_ ?_
       rotate_left
       ·simp only [Act.put, List.setIfInBounds_toArray, List.set_cons_zero, List.set_cons_succ, i64_w, i32_w]
        rfl
       refine pure_ (i := 7) (N := some 31) (v := undef) (a' := ?_) #[true, true, true, true, true, true, true, true, false, false, false, false, false, false, false, false, false, false] rfl rfl (any_of HT_.out (by kernel_rfl)) (fun _ _ _ h => h) (Or.inr ⟨by rfl, rfl⟩) ?_ ?_
       rotate_left
       ·simp only [Act.put, List.setIfInBounds_toArray, List.set_cons_zero, List.set_cons_succ, i64_w, i32_w]
        rfl
       refine pure_ (i := 8) (N := some 32) (v := undef) (a' := ?_) #[true, true, true, true, true, true, true, true, true, false, false, false, false, false, false, false, false, false] rfl rfl (any_of HT_.out (by kernel_rfl)) (fun _ _ _ h => h) (Or.inr ⟨by rfl, rfl⟩) ?_ ?_
       rotate_left
       ·simp only [Act.put, List.setIfInBounds_toArray, List.set_cons_zero, List.set_cons_succ, i64_w, i32_w]
        rfl
       refine pure_ (i := 9) (N := some 33) (v := undef) (a' := ?_) #[true, true, true, true, true, true, true, true, true, true, false, false, false, false, false, false, false, false] rfl rfl (any_of HT_.out (by kernel_rfl)) (fun _ _ _ h => h) (Or.inr ⟨by rfl, rfl⟩) ?_ ?_
       rotate_left
       ·simp only [Act.put, List.setIfInBounds_toArray, List.set_cons_zero, List.set_cons_succ, i64_w, i32_w]
        rfl
       refine pure_ (i := 10) (N := some 34) (v := undef) (a' := ?_) #[true, true, true, true, true, true, true, true, true, true, true, false, false, false, false, false, false, false] rfl rfl (any_of HT_.out (by kernel_rfl)) (fun _ _ _ h => h) (Or.inr ⟨by rfl, rfl⟩) ?_ ?_
       rotate_left
       ·simp only [Act.put, List.setIfInBounds_toArray, List.set_cons_zero, List.set_cons_succ, i64_w, i32_w]
        rfl
       refine pure_ (i := 11) (N := some 35) (v := undef) (a' := ?_) #[true, true, true, true, true, true, true, true, true, true, true, true, false, false, false, false, false, false] rfl rfl (any_of HT_.out (by kernel_rfl)) (fun _ _ _ h => h) (Or.inr ⟨by rfl, rfl⟩) ?_ ?_
       rotate_left
       ·simp only [Act.put, List.setIfInBounds_toArray, List.set_cons_zero, List.set_cons_succ, i64_w, i32_w]
        rfl
       refine pure_ (i := 12) (N := some 36) (v := undef) (a' := ?_) #[true, true, true, true, true, true, true, true, true, true, true, true, true, false, false, false, false, false] rfl rfl (any_of HT_.out (by kernel_rfl)) (fun _ _ _ h => h) (Or.inr ⟨by rfl, rfl⟩) ?_ ?_
       rotate_left
       ·simp only [Act.put, List.setIfInBounds_toArray, List.set_cons_zero, List.set_cons_succ, i64_w, i32_w]
        rfl
       refine pure_ (i := 13) (N := some 37) (v := undef) (a' := ?_) #[true, true, true, true, true, true, true, true, true, true, true, true, true, true, false, false, false, false] rfl rfl (any_of HT_.out (by kernel_rfl)) (fun _ _ _ h => h) (Or.inr ⟨by rfl, rfl⟩) ?_ ?_
       rotate_left
       ·simp only [Act.put, List.setIfInBounds_toArray, List.set_cons_zero, List.set_cons_succ, i64_w, i32_w]
        rfl
       refine pure_ (i := 14) (N := some 38) (v := undef) (a' := ?_) #[true, true, true, true, true, true, true, true, true, true, true, true, true, true, true, false, false, false] rfl rfl (any_of HT_.out (by kernel_rfl)) (fun _ _ _ h => h) (Or.inr ⟨by rfl, rfl⟩) ?_ ?_
       rotate_left
       ·simp only [Act.put, List.setIfInBounds_toArray, List.set_cons_zero, List.set_cons_succ, i64_w, i32_w]
        rfl
       refine pure_ (i := 15) (N := some 39) (v := undef) (a' := ?_) #[true, true, true, true, true, true, true, true, true, true, true, true, true, true, true, true, false, false] rfl rfl (any_of HT_.out (by kernel_rfl)) (fun _ _ _ h => h) (Or.inr ⟨by rfl, rfl⟩) ?_ ?_
       rotate_left
       ·simp only [Act.put, List.setIfInBounds_toArray, List.set_cons_zero, List.set_cons_succ, i64_w, i32_w]
        rfl
       refine pure_ (i := 16) (N := some 40) (v := undef) (a' := ?_) #[true, true, true, true, true, true, true, true, true, true, true, true, true, true, true, true, true, false] rfl rfl (any_of HT_.out (by kernel_rfl)) (fun _ _ _ h => h) (Or.inr ⟨by rfl, rfl⟩) ?_ ?_
       rotate_left
       ·simp only [Act.put, List.setIfInBounds_toArray, List.set_cons_zero, List.set_cons_succ, i64_w, i32_w]
        rfl
       refine pure_ (i := 17) (N := some 41) (v := ?_) (a' := ?_) #[true, true, true, true, true, true, true, true, true, true, true, true, true, true, true, true, true, true] rfl rfl (any_of HT_.out (by kernel_rfl)) (fun _ _ _ h => h) (Or.inl ⟨by rfl, ?_⟩) ?_ ?_
       rotate_left
       ·intro w'
        go_simp
        with_reducible rfl
       rotate_left
       ·simp only [Act.put, List.setIfInBounds_toArray, List.set_cons_zero, List.set_cons_succ, i64_w, i32_w]
        rfl
       refine done_ (done_of HT_.out (by kernel_rfl)) ?_
       try go_wp2
       go_meet
       case rel => exact ⟨_, (false), (by first | rfl | (simp; done) | (simp [*]; done)), H', ⟨by have := HJ5.out; have := HJ14.out; first | omega | exact Nat.le_refl _⟩, ⟨bk_ BK315⟩, ⟨bk_ BK316⟩, ⟨bl_2 HB GE315 GE316⟩⟩
     case rest =>
      clear HC17
      try clear c1
      try clear c2
      try clear p2
      try clear c3
      try clear p3
      try clear q3
      try clear hx3
      try clear c9
      try clear c14
      try clear c14b0
      try clear c14b1
      try clear c16
      try clear c18
      try clear c18b0
      try clear c18b1
      try clear c19
      try clear c19b0
      try clear c20
      try clear c20b0
      try clear hcz10_0
      try clear hcz10_1
      try clear hcz10_2
      try clear hcz12_0
      try clear hcz12_1
      try clear hcz12_2
      try clear hfz10_0
      try clear hfz10_1
      try clear hfz10_2
      try clear hfz12_0
      try clear hfz12_1
      try clear hfz12_2
      try clear hx319_0
      try clear hx319_1
      try clear hx319_2
      try clear hx320_0
      try clear hx320_1
      try clear hx320_2
      try clear p2
      try clear p319
      try clear p320
      try clear q319
      try clear q320
      obtain ⟨kq, x41_16, rfl, HA, HJ16, BK315, BK316, HB⟩ := hcut
      cases kq with
      | zero => exact absurd HA.out (by simp [gafferref02_Swap.j2])
      | succ kj16 =>
       have H := HA.out
       clear HA
       simp only [gafferref02_Swap.j2] at H
       have HC23 := Aside0.mk H
       clear H
       go_upto_if 41 with (fail)
       go_cut [8] (fun v8 wc => ∃ (kq : Nat) (x8_22 : Int), v8 = .int .i64 x8_22 ∧ Aside0 (gafferref02_Swap.j3 kq a1 a2 x8_22 t318 l0_0 a0_1 a0_2 = some (r1, r2, r3, r4)) ∧ Aside0 (kq ≤ kj16) ∧ Aside0 (wc.heap[gb315]? = some (.cells #[(.slice A0_0 l0_0.length c0_0), .bool a0_1, .int .i64 a0_2] 24 (0, 0))) ∧ Aside0 (wc.heap[gb316]? = some (.cells #[(.slice none 0 0), .bool false, .int .i64 0] 24 (0, 0))) ∧ Aside0 (Below w.heap.size w wc))
       case first =>
        have H := HC23.out
        clear HC23
        by_cases c24 : x41_16 = true
        ·subst c24
         have H1 : (gafferref02_Swap.j3 kj16 a1 a2 9 t318 l0_0 a0_1 a0_2) = some (r1, r2, r3, r4) := by rw [if_pos rfl] at H; exact H
         clear H
         have H := H1
         clear H1
         have H' := Aside0.mk H
         clear H
         go_wp2
         go_meet
         case rel => exact ⟨_, (9), (by first | rfl | (simp; done) | (simp [*]; done)), H', ⟨by have := HJ5.out; have := HJ14.out; have := HJ16.out; first | omega | exact Nat.le_refl _⟩, ⟨bk_ BK315⟩, ⟨bk_ BK316⟩, ⟨bl_2 HB GE315 GE316⟩⟩
        ·replace c24 := Bool.eq_false_iff.mpr c24
         subst c24
         have H1 : (gafferref02_Swap.j3 kj16 a1 a2 x8_14 t318 l0_0 a0_1 a0_2) = some (r1, r2, r3, r4) := by rw [if_neg (show ¬ (false = true) by decide)] at H; exact H
         clear H
         have H := H1
         clear H1
         have H' := Aside0.mk H
         clear H
         go_wp2
         go_meet
         case rel => exact ⟨_, (x8_14), (by first | rfl | (simp; done) | (simp [*]; done)), H', ⟨by have := HJ5.out; have := HJ14.out; have := HJ16.out; first | omega | exact Nat.le_refl _⟩, ⟨bk_ BK315⟩, ⟨bk_ BK316⟩, ⟨bl_2 HB GE315 GE316⟩⟩
       case rest =>
        clear HC23
        try clear c1
        try clear c2
        try clear p2
        try clear c3
        try clear p3
        try clear q3
        try clear hx3
        try clear c9
        try clear c14
        try clear c14b0
        try clear c14b1
        try clear c16
        try clear c18
        try clear c18b0
        try clear c18b1
        try clear c19
        try clear c19b0
        try clear c20
        try clear c20b0
        try clear c24
        try clear hcz10_0
        try clear hcz10_1
        try clear hcz10_2
        try clear hcz12_0
        try clear hcz12_1
        try clear hcz12_2
        try clear hfz10_0
        try clear hfz10_1
        try clear hfz10_2
        try clear hfz12_0
        try clear hfz12_1
        try clear hfz12_2
        try clear hx319_0
        try clear hx319_1
        try clear hx319_2
        try clear hx320_0
        try clear hx320_1
        try clear hx320_2
        try clear p2
        try clear p3
        try clear p319
        try clear p320
        try clear q3
        try clear q319
        try clear q320
        obtain ⟨kq, x8_22, rfl, HA, HJ22, BK315, BK316, HB⟩ := hcut
        cases kq with
        | zero => exact absurd HA.out (by simp [gafferref02_Swap.j3])
        | succ kj22 =>
         have H := HA.out
         clear HA
         simp only [gafferref02_Swap.j3] at H
         have HC25 := Aside0.mk H
         clear H
         go_upto_region 7 with (fail)
         go_cut [48] (fun v48 wc => ∃ (kq : Nat) (x48_24 : Bool), v48 = .bool x48_24 ∧ Aside0 (gafferref02_Swap.j4 kq a1 a2 x8_22 t318 x48_24 l0_0 a0_1 a0_2 = some (r1, r2, r3, r4)) ∧ Aside0 (kq ≤ kj22) ∧ Aside0 (wc.heap[gb315]? = some (.cells #[(.slice A0_0 l0_0.length c0_0), .bool a0_1, .int .i64 a0_2] 24 (0, 0))) ∧ Aside0 (wc.heap[gb316]? = some (.cells #[(.slice none 0 0), .bool false, .int .i64 0] 24 (0, 0))) ∧ Aside0 (Below w.heap.size w wc))
         case first =>
          have H := HC25.out
          clear HC25
          by_cases c26 : x8_22 = 0
          ·rw [if_pos c26] at H
           have c26b0 : (x8_22 == 0) = true := beq_iff_eq.mpr c26
           have c26b1 : (x8_22 != 0) = false := bne_eq_false_iff_eq.mpr c26
           clear c26
           (first | rw [c26b0] | (simp only [i64_w, i32_w]; rw [c26b0]) | skip)
           replace H := Option.bind_eq_some_iff.mp H
           obtain ⟨t321, A270, H⟩ := H
           replace H : (gafferref02_Swap.j4 kj22 a1 a2 x8_22 t318 (!t321) l0_0 a0_1 a0_2) = some (r1, r2, r3, r4) := H
           have A27 := Aside0.mk A270
           clear A270
           have H' := Aside0.mk H
           clear H
           go_wp2_with (first | (go_at_call 38; (with_reducible refine (gafferref02_name.calls a2 t321 _ A27.out).mono ?_); rintro e w' ⟨rfl, ⟨nd, rfl⟩⟩))
           go_meet
           case rel => exact ⟨_, (!t321), (by first | rfl | (simp; done) | (simp [*]; done)), H', ⟨by have := HJ5.out; have := HJ14.out; have := HJ16.out; have := HJ22.out; first | omega | exact Nat.le_refl _⟩, ⟨bk_ BK315⟩, ⟨bk_ BK316⟩, ⟨bl_2 HB GE315 GE316⟩⟩
          ·rw [if_neg c26] at H
           have c26b0 : (x8_22 == 0) = false := beq_eq_false_iff_ne.mpr c26
           have c26b1 : (x8_22 != 0) = true := bne_iff_ne.mpr c26
           (first | rw [c26b0] | (simp only [i64_w, i32_w]; rw [c26b0]) | skip)
           have H' := Aside0.mk H
           clear H
           go_wp2
           go_meet
           case rel => exact ⟨_, (false), (by first | rfl | (simp; done) | (simp [*]; done)), H', ⟨by have := HJ5.out; have := HJ14.out; have := HJ16.out; have := HJ22.out; first | omega | exact Nat.le_refl _⟩, ⟨bk_ BK315⟩, ⟨bk_ BK316⟩, ⟨bl_2 HB GE315 GE316⟩⟩
         case rest =>
          clear HC25
          try clear c1
          try clear c2
          try clear p2
          try clear c3
          try clear p3
          try clear q3
          try clear hx3
          try clear c9
          try clear c14
          try clear c14b0
          try clear c14b1
          try clear c16
          try clear c18
          try clear c18b0
          try clear c18b1
          try clear c19
          try clear c19b0
          try clear c20
          try clear c20b0
          try clear c24
          try clear c26
          try clear c26b0
          try clear c26b1
          try clear hcz10_0
          try clear hcz10_1
          try clear hcz10_2
          try clear hcz12_0
          try clear hcz12_1
          try clear hcz12_2
          try clear hfz10_0
          try clear hfz10_1
          try clear hfz10_2
          try clear hfz12_0
          try clear hfz12_1
          try clear hfz12_2
          try clear hx319_0
          try clear hx319_1
          try clear hx319_2
          try clear hx320_0
          try clear hx320_1
          try clear hx320_2
          try clear p2
          try clear p3
          try clear p319
          try clear p320
          try clear q3
          try clear q319
          try clear q320
          obtain ⟨kq, x48_24, rfl, HA, HJ24, BK315, BK316, HB⟩ := hcut
          cases kq with
          | zero => exact absurd HA.out (by simp [gafferref02_Swap.j4])
          | succ kj24 =>
           have H := HA.out
           clear HA
           simp only [gafferref02_Swap.j4] at H
           have HC28 := Aside0.mk H
           clear H
           go_upto_if 48 with (fail)
           go_cut [8] (fun v8 wc => ∃ (kq : Nat) (x8_27 : Int), v8 = .int .i64 x8_27 ∧ Aside0 (gafferref02_Swap.j5 kq a1 a2 x8_27 t318 l0_0 a0_1 a0_2 = some (r1, r2, r3, r4)) ∧ Aside0 (kq ≤ kj24) ∧ Aside0 (wc.heap[gb315]? = some (.cells #[(.slice A0_0 l0_0.length c0_0), .bool a0_1, .int .i64 a0_2] 24 (0, 0))) ∧ Aside0 (wc.heap[gb316]? = some (.cells #[(.slice none 0 0), .bool false, .int .i64 0] 24 (0, 0))) ∧ Aside0 (Below w.heap.size w wc))
           case first =>
            have H := HC28.out
            clear HC28
            by_cases c29 : x48_24 = true
            ·subst c29
             have H1 : (gafferref02_Swap.j5 kj24 a1 a2 5 t318 l0_0 a0_1 a0_2) = some (r1, r2, r3, r4) := by rw [if_pos rfl] at H; exact H
             clear H
             have H := H1
             clear H1
             have H' := Aside0.mk H
             clear H
             go_wp2
             go_meet
             case rel => exact ⟨_, (5), (by first | rfl | (simp; done) | (simp [*]; done)), H', ⟨by have := HJ5.out; have := HJ14.out; have := HJ16.out; have := HJ22.out; have := HJ24.out; first | omega | exact Nat.le_refl _⟩, ⟨bk_ BK315⟩, ⟨bk_ BK316⟩, ⟨bl_2 HB GE315 GE316⟩⟩
            ·replace c29 := Bool.eq_false_iff.mpr c29
             subst c29
             have H1 : (gafferref02_Swap.j5 kj24 a1 a2 x8_22 t318 l0_0 a0_1 a0_2) = some (r1, r2, r3, r4) := by rw [if_neg (show ¬ (false = true) by decide)] at H; exact H
             clear H
             have H := H1
             clear H1
             have H' := Aside0.mk H
             clear H
             go_wp2
             go_meet
             case rel => exact ⟨_, (x8_22), (by first | rfl | (simp; done) | (simp [*]; done)), H', ⟨by have := HJ5.out; have := HJ14.out; have := HJ16.out; have := HJ22.out; have := HJ24.out; first | omega | exact Nat.le_refl _⟩, ⟨bk_ BK315⟩, ⟨bk_ BK316⟩, ⟨bl_2 HB GE315 GE316⟩⟩
           case rest =>
            clear HC28
            try clear c1
            try clear c2
            try clear p2
            try clear c3
            try clear p3
            try clear q3
            try clear hx3
            try clear c9
            try clear c14
            try clear c14b0
            try clear c14b1
            try clear c16
            try clear c18
            try clear c18b0
            try clear c18b1
            try clear c19
            try clear c19b0
            try clear c20
            try clear c20b0
            try clear c24
            try clear c26
            try clear c26b0
            try clear c26b1
            try clear c29
            try clear hcz10_0
            try clear hcz10_1
            try clear hcz10_2
            try clear hcz12_0
            try clear hcz12_1
            try clear hcz12_2
            try clear hfz10_0
            try clear hfz10_1
            try clear hfz10_2
            try clear hfz12_0
            try clear hfz12_1
            try clear hfz12_2
            try clear hx319_0
            try clear hx319_1
            try clear hx319_2
            try clear hx320_0
            try clear hx320_1
            try clear hx320_2
            try clear p2
            try clear p3
            try clear p319
            try clear p320
            try clear q3
            try clear q319
            try clear q320
            obtain ⟨kq, x8_27, rfl, HA, HJ27, BK315, BK316, HB⟩ := hcut
            cases kq with
            | zero => exact absurd HA.out (by simp [gafferref02_Swap.j5])
            | succ kj27 =>
             have H := HA.out
             clear HA
             simp only [gafferref02_Swap.j5] at H
             by_cases c30 : x8_27 = 0
             ·rw [if_pos c30] at H
              have c30b0 : (x8_27 == 0) = true := beq_iff_eq.mpr c30
              have c30b1 : (x8_27 != 0) = false := bne_eq_false_iff_eq.mpr c30
              clear c30
              replace H := Option.bind_eq_some_iff.mp H
              obtain ⟨⟨t328, t331, t332⟩, A310, H⟩ := H
              replace H : ((gafferref02_burnt.f t328 t331 t332).bind fun bt333 => (if bt333.2.2.2 = true then (if 0 ≤ t318 then (if t318 < (bt333.1.length : Int) then ((gafferref02_without.f kj27 bt333.1 bt333.2.1 bt333.2.2.1 a1).bind fun bt342 => ((gafferref02_with.f kj27 bt342.1 bt342.2.1 bt342.2.2 a2 ((rd_T35 bt333.1 t318).f1) ((rd_T35 bt333.1 t318).f2)).bind fun bt347 => (some (bt347.1, bt347.2.1, bt347.2.2, 0)))) else (none)) else (none)) else (some (bt333.1, bt333.2.1, bt333.2.2.1, 8)))) = some (r1, r2, r3, r4) := H
              have A31 := Aside0.mk A310
              clear A310
              replace H := Option.bind_eq_some_iff.mp H
              obtain ⟨⟨t333, t336, t337, t338⟩, A320, H⟩ := H
              replace H : (if t338 = true then (if 0 ≤ t318 then (if t318 < (t333.length : Int) then ((gafferref02_without.f kj27 t333 t336 t337 a1).bind fun bt342 => ((gafferref02_with.f kj27 bt342.1 bt342.2.1 bt342.2.2 a2 ((rd_T35 t333 t318).f1) ((rd_T35 t333 t318).f2)).bind fun bt347 => (some (bt347.1, bt347.2.1, bt347.2.2, 0)))) else (none)) else (none)) else (some (t333, t336, t337, 8))) = some (r1, r2, r3, r4) := H
              have A32 := Aside0.mk A320
              clear A320
              by_cases c33 : t338 = true
              ·subst c33
               have H1 : (if 0 ≤ t318 then (if t318 < (t333.length : Int) then ((gafferref02_without.f kj27 t333 t336 t337 a1).bind fun bt342 => ((gafferref02_with.f kj27 bt342.1 bt342.2.1 bt342.2.2 a2 ((rd_T35 t333 t318).f1) ((rd_T35 t333 t318).f2)).bind fun bt347 => (some (bt347.1, bt347.2.1, bt347.2.2, 0)))) else (none)) else (none)) = some (r1, r2, r3, r4) := by rw [if_pos rfl] at H; exact H
               clear H
               have H := H1
               clear H1
               by_cases c34 : 0 ≤ t318
               ·rw [if_pos c34] at H
                have c34b0 : decide (0 ≤ t318) = true := decide_eq_true c34
                clear c34
                by_cases c35 : t318 < (t333.length : Int)
                ·rw [if_pos c35] at H
                 have c35b0 : decide (t318 < (t333.length : Int)) = true := decide_eq_true c35
                 clear c35
                 replace H := Option.bind_eq_some_iff.mp H
                 obtain ⟨⟨t342, t345, t346⟩, A360, H⟩ := H
                 replace H : ((gafferref02_with.f kj27 t342 t345 t346 a2 ((rd_T35 t333 t318).f1) ((rd_T35 t333 t318).f2)).bind fun bt347 => (some (bt347.1, bt347.2.1, bt347.2.2, 0))) = some (r1, r2, r3, r4) := H
                 have A36 := Aside0.mk A360
                 clear A360
                 replace H := Option.bind_eq_some_iff.mp H
                 obtain ⟨⟨t347, t350, t351⟩, A370, H⟩ := H
                 replace H : (some (t347, t350, t351, 0)) = some (r1, r2, r3, r4) := H
                 have A37 := Aside0.mk A370
                 clear A370
                 simp only [Option.some.injEq, Prod.mk.injEq] at H
                 obtain ⟨rfl, rfl, rfl, rfl⟩ := H
                 have hnb38 := NB315_316.out
                 have hnc38 := NB316_315.out
                 obtain ⟨hcz39_0, hcz39_1, hcz39_2, hfz39_0, hfz39_1, hfz39_2⟩ := c3_ BK315
                 try go_wp2_with (first | ((with_reducible refine gate_callee (f := 11) rfl ?_); refine goesL_ (some 58) rfl rfl Try.func11 (by kernel_rfl) rfl #[.agg #[.slice A0_0 l0_0.length c0_0, .bool a0_1, .int .i64 a0_2]] rfl (ar_) ?_; (with_reducible refine (gafferref02_Copy.calls _ _ l0_0 a0_1 a0_2 t328 t331 t332 _ ?side1 ?side2 A31.out).mono ?_); (case side1 => repeat (first | exact (Kd.C_below HR0_0.out HB.out) | (with_reducible refine Kd.C_alloc ?_ _) | (with_reducible refine Kd.C_drewN ?_ _) | (with_reducible refine Kd.C_drew ?_))); (case side2 => exact HC0_0.out); rintro e w40 ⟨v329, rfl, ho0, hb⟩; refine ⟨_, rfl, ?_⟩; have HO330 := Aside0.mk (Kd.R_lower ho0 (below_size (bl_2 HB GE315 GE316))); replace BK315 := Aside0.mk (bb_ BK315 hb); replace BK316 := Aside0.mk (bb_ BK316 hb); replace HB := Aside0.mk (below_step (bl_2 HB GE315 GE316) hb); (try clear hb); (try clear hb2); (try clear hk); (try clear hi); (try clear ho0); obtain ⟨Ao41, co41, eo41⟩ := Kd.R_slice HO330.out; subst eo41) | ((with_reducible refine gate_callee (f := 40) rfl ?_); refine goesL_ (some 59) rfl rfl Try.func40 (by kernel_rfl) rfl #[.agg #[.slice Ao41 t328.length co41, .bool t331, .int .i64 t332]] rfl (ar_) ?_; (with_reducible refine (gafferref02_burnt.calls (fun k_ => some k_ = (.slice Ao41 t328.length co41 : Value).ownBlock) (.slice Ao41 t328.length co41) t328 t331 t332 t333 t336 t337 true w _ ?side1 ?side2 A32.out).mono ?_); (case side1 => repeat (first | (with_reducible first | exact HB.out | apply below_alloc | apply pw_below_drewN | apply below_drew1 | refine below_set ?_ GE315.out | refine below_set ?_ GE316.out) | exact HB.out)); (case side2 => exact Kd.R_tight rfl HO330.out); rintro e w42 ⟨v334, rfl, ho0, hb, hkp⟩; refine ⟨_, rfl, ?_⟩; replace BK315 := Aside0.mk (blk_kept (bk_ BK315) hkp (fun hs_ => (fun e_ => (Kd.R_ne HO330.out BK315.out (by decide)) e_) hs_)); replace BK316 := Aside0.mk (blk_kept (bk_ BK316) hkp (fun hs_ => (fun e_ => (Kd.R_ne HO330.out BK316.out (by decide)) e_) hs_)); have HO335 := Aside0.mk (Kd.R_mono (ok' := fun k_ => True) ho0 (fun k_ hk_ => trivial)); replace HB := Aside0.mk (hb); clear HO330; (try clear hb); (try clear hkp); (try clear ho0)) | ((with_reducible refine gate_dst (N := 10) rfl ?_); (try (refine gate_guard (by rfl) ?_; dsimp only)); refine box_event ?hg (N := 10) ?hd (cs := #[.slice none 0 0, .bool false, .int .i64 0]) (t := 24) ?hr ?_; (case hd => rfl); (case hg => rfl); (case hr => first | (go_simp; done) | (go_simp; rfl)); intro gb339 hg w43 hbox hb; replace HO335 := Aside0.mk (Kd.R_below (by (with_reducible repeat (first | apply Kd.R_alloc | apply Kd.R_drewN | apply Kd.R_drew)); exact HO335.out) hb); have BK339 := Aside0.mk (hbox); have GW339 := Aside0.mk (bs_2 hg HB GE315 GE316); have GE339 := Aside0.mk (bs_2 hg HB GE315 GE316); replace HB := Aside0.mk (below_step (bl_2 HB GE315 GE316) hb); have NB315_339 := Aside0.mk (nb_ hg BK315); have NB339_315 := Aside0.mk (nc_ hg BK315); replace BK315 := Aside0.mk (bb_ BK315 hb); have NB316_339 := Aside0.mk (nb_ hg BK316); have NB339_316 := Aside0.mk (nc_ hg BK316); replace BK316 := Aside0.mk (bb_ BK316 hb); clear hb hbox hg; obtain ⟨Ao44, co44, eo44⟩ := Kd.R_slice HO335.out; subst eo44; have hnb45 := NB339_315.out; have hnc45 := NB315_339.out; have hnb46 := NB339_316.out; have hnc46 := NB316_339.out; obtain ⟨hcz47_0, hcz47_1, hcz47_2, hfz47_0, hfz47_1, hfz47_2⟩ := c3_ BK339; have p340 : 0 ≤ (t318 : Int) := of_decide_eq_true (by first | (with_reducible assumption) | assumption); have q340 : t318 < (t333.length : Int) := of_decide_eq_true (by first | (with_reducible assumption) | assumption); obtain ⟨ad340, e340, hx340_0, hx340_1, hx340_2⟩ := at_T35 (Kd.R_reads' HO335.out).2.2 t318 p340 q340; cases e340; have hn340_0 : ad340.block ≠ gb339 := Kd.own_blk (Kd.R_ne HO335.out BK339.out (by decide)); have hn340_1 : ad340.block ≠ gb339 := Kd.own_blk (Kd.R_ne HO335.out BK339.out (by decide)); have hn340_2 : ad340.block ≠ gb339 := Kd.own_blk (Kd.R_ne HO335.out BK339.out (by decide)); replace hx340_0 := (cf_ (p := ⟨gb339, 0, none⟩) hn340_0 (.slice (some ad340) t333.length co44)).trans hx340_0; replace hx340_1 := (cf_ (p := ⟨gb339, 0, none⟩) hn340_0 (.slice (some ad340) t333.length co44)).trans hx340_1; replace hx340_2 := (cf_ (p := ⟨gb339, 0, none⟩) hn340_0 (.slice (some ad340) t333.length co44)).trans hx340_2; replace hx340_0 := (cf_ (p := ⟨gb339, 1, none⟩) hn340_1 (.bool t336)).trans hx340_0; replace hx340_1 := (cf_ (p := ⟨gb339, 1, none⟩) hn340_1 (.bool t336)).trans hx340_1; replace hx340_2 := (cf_ (p := ⟨gb339, 1, none⟩) hn340_1 (.bool t336)).trans hx340_2; replace hx340_0 := (cf_ (p := ⟨gb339, 2, none⟩) hn340_2 (.int .i64 t337)).trans hx340_0; replace hx340_1 := (cf_ (p := ⟨gb339, 2, none⟩) hn340_2 (.int .i64 t337)).trans hx340_1; replace hx340_2 := (cf_ (p := ⟨gb339, 2, none⟩) hn340_2 (.int .i64 t337)).trans hx340_2; clear hn340_0; clear hn340_1; clear hn340_2; replace p340 := eq_true p340; replace q340 := eq_true q340) | ((with_reducible refine gate_dst (N := 12) rfl ?_); (try (refine gate_guard (by rfl) ?_; dsimp only)); refine box_event ?hg (N := 12) ?hd (cs := #[.string (⟨#[]⟩ : ByteArray), .string (⟨#[]⟩ : ByteArray), .int .i64 0]) (t := 35) ?hr ?_; (case hd => rfl); (case hg => rfl); (case hr => first | (go_simp; done) | (go_simp; rfl)); intro gb341 hg w48 hbox hb; replace HO335 := Aside0.mk (Kd.R_below (Kd.R_elderB (by (with_reducible repeat (first | apply Kd.R_alloc | apply Kd.R_drewN | apply Kd.R_drew)); exact (Kd.R_mono (Kd.R_far (p := ⟨gb339, 2, none⟩) (Kd.R_far (p := ⟨gb339, 1, none⟩) (Kd.R_far (p := ⟨gb339, 0, none⟩) (Kd.R_types HO335.out BK339.out (by decide)) (fun _ hk => hk.2) (.slice (some ad340) t333.length co44)) (fun _ hk => hk.2) (.bool t336)) (fun _ hk => hk.2) (.int .i64 t337)) (fun _ h_ => h_.1))) gb341 (Nat.le_of_eq hg.symm)) hb); have BK341 := Aside0.mk (hbox); have GW341 := Aside0.mk (bs_3 hg HB GE315 GE316 GE339); have GE341 := Aside0.mk (bs_3 hg HB GE315 GE316 GE339); replace HB := Aside0.mk (below_step (bl_3 HB GE315 GE316 GE339) hb); have NB315_341 := Aside0.mk ((by rw [hg]; exact Nat.ne_of_lt (blk_lt (g := gb315) (o := .cells #[.slice A0_0 l0_0.length c0_0, .bool a0_1, .int .i64 a0_2] 24 (0, 0)) (bp_1 BK315 NB315_339)) : gb315 ≠ gb341)); have NB341_315 := Aside0.mk ((by rw [hg]; exact Nat.ne_of_gt (blk_lt (g := gb315) (o := .cells #[.slice A0_0 l0_0.length c0_0, .bool a0_1, .int .i64 a0_2] 24 (0, 0)) (bp_1 BK315 NB315_339)) : gb341 ≠ gb315)); replace BK315 := Aside0.mk (blk_below (g := gb315) (o := .cells #[.slice A0_0 l0_0.length c0_0, .bool a0_1, .int .i64 a0_2] 24 (0, 0)) (bp_1 BK315 NB315_339) hb); have NB316_341 := Aside0.mk ((by rw [hg]; exact Nat.ne_of_lt (blk_lt (g := gb316) (o := .cells #[.slice none 0 0, .bool false, .int .i64 0] 24 (0, 0)) (bp_1 BK316 NB316_339)) : gb316 ≠ gb341)); have NB341_316 := Aside0.mk ((by rw [hg]; exact Nat.ne_of_gt (blk_lt (g := gb316) (o := .cells #[.slice none 0 0, .bool false, .int .i64 0] 24 (0, 0)) (bp_1 BK316 NB316_339)) : gb341 ≠ gb316)); replace BK316 := Aside0.mk (blk_below (g := gb316) (o := .cells #[.slice none 0 0, .bool false, .int .i64 0] 24 (0, 0)) (bp_1 BK316 NB316_339) hb); have NB339_341 := Aside0.mk ((by rw [hg]; exact Nat.ne_of_lt (blk_lt (g := gb339) (o := .cells #[.slice (some ad340) t333.length co44, .bool t336, .int .i64 t337] 24 (0, 0)) (bp_0 BK339)) : gb339 ≠ gb341)); have NB341_339 := Aside0.mk ((by rw [hg]; exact Nat.ne_of_gt (blk_lt (g := gb339) (o := .cells #[.slice (some ad340) t333.length co44, .bool t336, .int .i64 t337] 24 (0, 0)) (bp_0 BK339)) : gb341 ≠ gb339)); replace BK339 := Aside0.mk (blk_below (g := gb339) (o := .cells #[.slice (some ad340) t333.length co44, .bool t336, .int .i64 t337] 24 (0, 0)) (bp_0 BK339) hb); clear hb hbox hg; have hnb49 := NB341_315.out; have hnc49 := NB315_341.out; have hnb50 := NB341_316.out; have hnc50 := NB316_341.out; have hnb51 := NB341_339.out; have hnc51 := NB339_341.out; obtain ⟨hcz52_0, hcz52_1, hcz52_2, hfz52_0, hfz52_1, hfz52_2⟩ := c3_ BK341))
                 have n0_ : Aside0 (Kd.R k35 35 ((((w48.setCell ⟨gb341, 0, none⟩ (.string ((rd_T35 t333 t318).f0))).setCell ⟨gb341, 1, none⟩ (.string ((rd_T35 t333 t318).f1))).setCell ⟨gb341, 2, none⟩ (.int .i64 ((rd_T35 t333 t318).f2))).setCell ⟨gb341, 0, none⟩ (.string a2)) w.heap.size (fun k_ => k_ ≠ gb341) (.slice (some ad340) t333.length co44) t333) := ⟨by (with_reducible repeat (first | apply Kd.R_alloc | apply Kd.R_drewN | apply Kd.R_drew)); exact Kd.R_mono (Kd.R_far (p := ⟨gb341, 0, none⟩) (Kd.R_far (p := ⟨gb341, 2, none⟩) (Kd.R_far (p := ⟨gb341, 1, none⟩) (Kd.R_far (p := ⟨gb341, 0, none⟩) (Kd.R_mono HO335.out (fun k_ hk => (⟨hk, hk.2⟩ : _ ∧ k_ ≠ gb341))) (fun _ hk => hk.2) (.string ((rd_T35 t333 t318).f0))) (fun _ hk => hk.2) (.string ((rd_T35 t333 t318).f1))) (fun _ hk => hk.2) (.int .i64 ((rd_T35 t333 t318).f2))) (fun _ hk => hk.2) (.string a2)) (fun _ hk => hk.1.2)⟩
                 have n1_ : Aside0 (((((w48.setCell ⟨gb341, 0, none⟩ (.string ((rd_T35 t333 t318).f0))).setCell ⟨gb341, 1, none⟩ (.string ((rd_T35 t333 t318).f1))).setCell ⟨gb341, 2, none⟩ (.int .i64 ((rd_T35 t333 t318).f2))).setCell ⟨gb341, 0, none⟩ (.string a2)).heap[gb315]? = some (.cells #[.slice A0_0 l0_0.length c0_0, .bool a0_1, .int .i64 a0_2] 24 (0, 0))) := ⟨by (with_reducible repeat (first | refine blk_drewN ?_ _ | refine blk_drew ?_ | refine blk_alloc ?_ _)); refine blk_far ?_ NB315_341.out _; (with_reducible repeat (first | refine blk_drewN ?_ _ | refine blk_drew ?_ | refine blk_alloc ?_ _)); refine blk_far ?_ NB315_341.out _; (with_reducible repeat (first | refine blk_drewN ?_ _ | refine blk_drew ?_ | refine blk_alloc ?_ _)); refine blk_far ?_ NB315_341.out _; (with_reducible repeat (first | refine blk_drewN ?_ _ | refine blk_drew ?_ | refine blk_alloc ?_ _)); refine blk_far ?_ NB315_341.out _; (with_reducible repeat (first | refine blk_drewN ?_ _ | refine blk_drew ?_ | refine blk_alloc ?_ _)); exact BK315.out⟩
                 have n2_ : Aside0 (((((w48.setCell ⟨gb341, 0, none⟩ (.string ((rd_T35 t333 t318).f0))).setCell ⟨gb341, 1, none⟩ (.string ((rd_T35 t333 t318).f1))).setCell ⟨gb341, 2, none⟩ (.int .i64 ((rd_T35 t333 t318).f2))).setCell ⟨gb341, 0, none⟩ (.string a2)).heap[gb316]? = some (.cells #[.slice none 0 0, .bool false, .int .i64 0] 24 (0, 0))) := ⟨by (with_reducible repeat (first | refine blk_drewN ?_ _ | refine blk_drew ?_ | refine blk_alloc ?_ _)); refine blk_far ?_ NB316_341.out _; (with_reducible repeat (first | refine blk_drewN ?_ _ | refine blk_drew ?_ | refine blk_alloc ?_ _)); refine blk_far ?_ NB316_341.out _; (with_reducible repeat (first | refine blk_drewN ?_ _ | refine blk_drew ?_ | refine blk_alloc ?_ _)); refine blk_far ?_ NB316_341.out _; (with_reducible repeat (first | refine blk_drewN ?_ _ | refine blk_drew ?_ | refine blk_alloc ?_ _)); refine blk_far ?_ NB316_341.out _; (with_reducible repeat (first | refine blk_drewN ?_ _ | refine blk_drew ?_ | refine blk_alloc ?_ _)); exact BK316.out⟩
                 have n3_ : Aside0 (((((w48.setCell ⟨gb341, 0, none⟩ (.string ((rd_T35 t333 t318).f0))).setCell ⟨gb341, 1, none⟩ (.string ((rd_T35 t333 t318).f1))).setCell ⟨gb341, 2, none⟩ (.int .i64 ((rd_T35 t333 t318).f2))).setCell ⟨gb341, 0, none⟩ (.string a2)).heap[gb339]? = some (.cells #[.slice (some ad340) t333.length co44, .bool t336, .int .i64 t337] 24 (0, 0))) := ⟨by (with_reducible repeat (first | refine blk_drewN ?_ _ | refine blk_drew ?_ | refine blk_alloc ?_ _)); refine blk_far ?_ NB339_341.out _; (with_reducible repeat (first | refine blk_drewN ?_ _ | refine blk_drew ?_ | refine blk_alloc ?_ _)); refine blk_far ?_ NB339_341.out _; (with_reducible repeat (first | refine blk_drewN ?_ _ | refine blk_drew ?_ | refine blk_alloc ?_ _)); refine blk_far ?_ NB339_341.out _; (with_reducible repeat (first | refine blk_drewN ?_ _ | refine blk_drew ?_ | refine blk_alloc ?_ _)); refine blk_far ?_ NB339_341.out _; (with_reducible repeat (first | refine blk_drewN ?_ _ | refine blk_drew ?_ | refine blk_alloc ?_ _)); exact BK339.out⟩
                 have n4_ : Aside0 (((((w48.setCell ⟨gb341, 0, none⟩ (.string ((rd_T35 t333 t318).f0))).setCell ⟨gb341, 1, none⟩ (.string ((rd_T35 t333 t318).f1))).setCell ⟨gb341, 2, none⟩ (.int .i64 ((rd_T35 t333 t318).f2))).setCell ⟨gb341, 0, none⟩ (.string a2)).heap[gb341]? = some (.cells #[.string a2, .string ((rd_T35 t333 t318).f1), .int .i64 ((rd_T35 t333 t318).f2)] 35 (0, 0))) := ⟨by (with_reducible repeat (first | refine blk_drewN ?_ _ | refine blk_drew ?_ | refine blk_alloc ?_ _)); refine blk_put (cs := #[.string ((rd_T35 t333 t318).f0), .string ((rd_T35 t333 t318).f1), .int .i64 ((rd_T35 t333 t318).f2)]) ?_ 0 _ rfl; (with_reducible repeat (first | refine blk_drewN ?_ _ | refine blk_drew ?_ | refine blk_alloc ?_ _)); refine blk_put (cs := #[.string ((rd_T35 t333 t318).f0), .string ((rd_T35 t333 t318).f1), .int .i64 0]) ?_ 2 _ rfl; (with_reducible repeat (first | refine blk_drewN ?_ _ | refine blk_drew ?_ | refine blk_alloc ?_ _)); refine blk_put (cs := #[.string ((rd_T35 t333 t318).f0), .string (⟨#[]⟩ : ByteArray), .int .i64 0]) ?_ 1 _ rfl; (with_reducible repeat (first | refine blk_drewN ?_ _ | refine blk_drew ?_ | refine blk_alloc ?_ _)); refine blk_put (cs := #[.string (⟨#[]⟩ : ByteArray), .string (⟨#[]⟩ : ByteArray), .int .i64 0]) ?_ 0 _ rfl; (with_reducible repeat (first | refine blk_drewN ?_ _ | refine blk_drew ?_ | refine blk_alloc ?_ _)); exact BK341.out⟩
                 have n5_ : Aside0 (Below w.heap.size w ((((w48.setCell ⟨gb341, 0, none⟩ (.string ((rd_T35 t333 t318).f0))).setCell ⟨gb341, 1, none⟩ (.string ((rd_T35 t333 t318).f1))).setCell ⟨gb341, 2, none⟩ (.int .i64 ((rd_T35 t333 t318).f2))).setCell ⟨gb341, 0, none⟩ (.string a2))) := ⟨bl_4 HB GE315 GE316 GE339 GE341⟩
                 (try clear HO335)
                 (try clear BK315)
                 (try clear BK316)
                 (try clear BK339)
                 (try clear BK341)
                 (try clear HB)
                 generalize ((((w48.setCell ⟨gb341, 0, none⟩ (.string ((rd_T35 t333 t318).f0))).setCell ⟨gb341, 1, none⟩ (.string ((rd_T35 t333 t318).f1))).setCell ⟨gb341, 2, none⟩ (.int .i64 ((rd_T35 t333 t318).f2))).setCell ⟨gb341, 0, none⟩ (.string a2)) = w53 at n0_ n1_ n2_ n3_ n4_ n5_ ⊢
                 have HO335 := n0_
                 have BK315 := n1_
                 have BK316 := n2_
                 have BK339 := n3_
                 have BK341 := n4_
                 have HB := n5_
                 clear n0_ n1_ n2_ n3_ n4_ n5_
                 have n0_ := Aside0.mk (Kd.R_drew HO335.out)
                 have n1_ := Aside0.mk (blk_drew BK315.out)
                 have n2_ := Aside0.mk (blk_drew BK316.out)
                 have n3_ := Aside0.mk (blk_drew BK339.out)
                 have n4_ := Aside0.mk (blk_drew BK341.out)
                 have n5_ := Aside0.mk (below_drew1 HB.out)
                 clear HO335
                 clear BK315
                 clear BK316
                 clear BK339
                 clear BK341
                 clear HB
                 have HO335 := n0_
                 have BK315 := n1_
                 have BK316 := n2_
                 have BK339 := n3_
                 have BK341 := n4_
                 have HB := n5_
                 clear n0_ n1_ n2_ n3_ n4_ n5_
                 refine start_ (n := 7) (S := fun w' => w'.cell? ⟨gb339, 0, none⟩ = some (.slice (some ad340) t333.length co44) ∧ w'.cell? ⟨gb339, 1, none⟩ = some (.bool t336) ∧ w'.cell? ⟨gb339, 2, none⟩ = some (.int .i64 t337) ∧ w'.cell? ⟨gb341, 0, none⟩ = some (.string a2) ∧ w'.cell? ⟨gb341, 1, none⟩ = some (.string ((rd_T35 t333 t318).f1)) ∧ w'.cell? ⟨gb341, 2, none⟩ = some (.int .i64 ((rd_T35 t333 t318).f2))) (ds := []) #[false, false, false, false, false, false, false] (by kernel_rfl) rfl rfl ⟨(blk_cell BK339.out 0).trans rfl, (blk_cell BK339.out 1).trans rfl, (blk_cell BK339.out 2).trans rfl, (blk_cell BK341.out 0).trans rfl, (blk_cell BK341.out 1).trans rfl, (blk_cell BK341.out 2).trans rfl⟩ (fun hHeld => ?_)
                 generalize w53.drew = w54 at HO335 BK315 BK316 BK339 BK341 HB hHeld ⊢
                 refine pure_ (i := 1) (N := some 73) (v := ?_) (a' := ?_) #[false, true, false, false, false, false, false] rfl rfl (by kernel_rfl) (fun _ _ _ h => h) (Or.inl ⟨by rfl, ?_⟩) ?_ ?_
                 rotate_left
                 ·intro w'
                  go_simp
                  with_reducible rfl
                 rotate_left
                 ·simp only [Act.put, List.setIfInBounds_toArray, List.set_cons_zero, List.set_cons_succ, i64_w, i32_w]
                  rfl
                 refine take_ (i := 0) (N := some 72) (v := ?_) (a' := ?_) #[true, true, false, false, false, false, false] rfl rfl (by kernel_rfl) (fun _ _ _ h => h) (Or.inl ⟨by rfl, ?_⟩) hHeld ?_ ?_
                 rotate_left
                 ·rintro w' ⟨s0, s1, s2, s3, s4, s5⟩
                  go_simp
                  with_reducible rfl
                 rotate_left
                 ·simp only [Act.put, List.setIfInBounds_toArray, List.set_cons_zero, List.set_cons_succ, i64_w, i32_w]
                  rfl
                 refine take_ (i := 3) (N := some 75) (v := ?_) (a' := ?_) #[true, true, false, true, false, false, false] rfl rfl (by kernel_rfl) (fun _ _ _ h => h) (Or.inl ⟨by rfl, ?_⟩) hHeld ?_ ?_
                 rotate_left
                 ·rintro w' ⟨s0, s1, s2, s3, s4, s5⟩
                  go_simp
                  with_reducible rfl
                 rotate_left
                 ·simp only [Act.put, List.setIfInBounds_toArray, List.set_cons_zero, List.set_cons_succ, i64_w, i32_w]
                  rfl
                 refine one_ (i := 2) (N := some 74) #[true, true, true, true, false, false, false] rfl rfl (by kernel_rfl) (by decide) (fun K hK => ?_)
                 refine goes_ Try.func42 (by kernel_rfl) rfl #[.agg #[.slice (some ad340) t333.length co44, .bool t336, .int .i64 t337], .string a1] (by rfl) rfl rfl (ar_) ?_
                 with_reducible refine (gafferref02_without.calls kj27 _ _ t333 t336 t337 a1 t342 t345 t346 _ ?side1 ?side2 A36.out).mono ?_
                 (case side1 => repeat (first | exact (Kd.R_reads' HO335.out).2.2 | (with_reducible refine Kd.C_alloc ?_ _) | (with_reducible refine Kd.C_drewN ?_ _) | (with_reducible refine Kd.C_drew ?_)))
                 (case side2 => exact (Kd.R_reads' HO335.out).2.1)
                 rintro e w55 ⟨v343, rfl, ho0, hb⟩
                 refine ⟨_, rfl, ?_⟩
                 have n0_ := Aside0.mk (Kd.R_elder' (by (with_reducible repeat (first | apply Kd.R_alloc | apply Kd.R_drewN | apply Kd.R_drew)); exact HO335.out) (Kd.R_base ho0) hb)
                 have n1_ := Aside0.mk (Kd.R_lower (Kd.R_newB (Kd.R_new' ho0 (Kd.R_lt (by (with_reducible repeat (first | apply Kd.R_alloc | apply Kd.R_drewN | apply Kd.R_drew)); exact HO335.out))) (g := gb341) (o := .cells #[.string a2, .string ((rd_T35 t333 t318).f1), .int .i64 ((rd_T35 t333 t318).f2)] 35 (0, 0)) (bk_ BK341)) (below_size (bl_4 HB GE315 GE316 GE339 GE341)))
                 have n2_ := Aside0.mk (bb_ BK315 hb)
                 have n3_ := Aside0.mk (bb_ BK316 hb)
                 have n4_ := Aside0.mk (bb_ BK339 hb)
                 have n5_ := Aside0.mk (bb_ BK341 hb)
                 have n6_ := Aside0.mk (below_step (bl_4 HB GE315 GE316 GE339 GE341) hb)
                 clear HO335
                 clear BK315
                 clear BK316
                 clear BK339
                 clear BK341
                 clear HB
                 have HO335 := n0_
                 have HO344 := n1_
                 have BK315 := n2_
                 have BK316 := n3_
                 have BK339 := n4_
                 have BK341 := n5_
                 have HB := n6_
                 clear n0_ n1_ n2_ n3_ n4_ n5_ n6_
                 (try clear hb)
                 (try clear hb2)
                 (try clear hk)
                 (try clear hi)
                 (try clear ho0)
                 obtain ⟨Ao56, co56, eo56⟩ := Kd.R_slice HO344.out
                 (first | subst eo56 | (injection eo56 with f1_ f2_ f3_; have f4_ := f1_.symm; have f5_ := f3_.symm; clear f1_ f2_ f3_; subst f4_; subst f5_))
                 refine hK.out _ _ ⟨(blk_cell BK339.out 0).trans rfl, (blk_cell BK339.out 1).trans rfl, (blk_cell BK339.out 2).trans rfl, (blk_cell BK341.out 0).trans rfl, (blk_cell BK341.out 1).trans rfl, (blk_cell BK341.out 2).trans rfl⟩ (fun hHeld => ?_)
                 clear hK K
                 refine norm_ (a' := ?_) ?_ ?_
                 rotate_left
                 ·show Act.put _ (some 74) _ = _
                  simp only [Act.put, List.setIfInBounds_toArray, List.set_cons_zero, List.set_cons_succ, i64_w, i32_w]
                  rfl
                 refine one_ (i := 4) (N := some 76) #[true, true, true, true, true, false, false] rfl rfl (by kernel_rfl) (by decide) (fun K hK => ?_)
                 refine goes_ Try.func41 (by kernel_rfl) rfl #[.agg #[.slice Ao56 t342.length co56, .bool t345, .int .i64 t346], .agg #[.string a2, .string ((rd_T35 t333 t318).f1), .int .i64 ((rd_T35 t333 t318).f2)]] (by rfl) rfl rfl (ar_) ?_
                 with_reducible refine (gafferref02_with.calls kj27 _ _ t342 t345 t346 a2 ((rd_T35 t333 t318).f1) ((rd_T35 t333 t318).f2) t347 t350 t351 _ ?side1 ?side2 A37.out).mono ?_
                 (case side1 => repeat (first | exact (Kd.R_reads' HO344.out).2.2 | (with_reducible refine Kd.C_alloc ?_ _) | (with_reducible refine Kd.C_drewN ?_ _) | (with_reducible refine Kd.C_drew ?_)))
                 (case side2 => exact (Kd.R_reads' HO344.out).2.1)
                 rintro e w57 ⟨v348, rfl, ho0, hb⟩
                 refine ⟨_, rfl, ?_⟩
                 have n0_ := Aside0.mk (Kd.R_elder' (by (with_reducible repeat (first | apply Kd.R_alloc | apply Kd.R_drewN | apply Kd.R_drew)); exact HO335.out) (Kd.R_base ho0) hb)
                 have n1_ := Aside0.mk (Kd.R_elder' (by (with_reducible repeat (first | apply Kd.R_alloc | apply Kd.R_drewN | apply Kd.R_drew)); exact HO344.out) (Kd.R_base ho0) hb)
                 have n2_ := Aside0.mk (Kd.R_lower (Kd.R_newB (Kd.R_new' (Kd.R_new' ho0 (Kd.R_lt (by (with_reducible repeat (first | apply Kd.R_alloc | apply Kd.R_drewN | apply Kd.R_drew)); exact HO335.out))) (Kd.R_lt (by (with_reducible repeat (first | apply Kd.R_alloc | apply Kd.R_drewN | apply Kd.R_drew)); exact HO344.out))) (g := gb341) (o := .cells #[.string a2, .string ((rd_T35 t333 t318).f1), .int .i64 ((rd_T35 t333 t318).f2)] 35 (0, 0)) (bk_ BK341)) (below_size (bl_4 HB GE315 GE316 GE339 GE341)))
                 have n3_ := Aside0.mk (bb_ BK315 hb)
                 have n4_ := Aside0.mk (bb_ BK316 hb)
                 have n5_ := Aside0.mk (bb_ BK339 hb)
                 have n6_ := Aside0.mk (bb_ BK341 hb)
                 have n7_ := Aside0.mk (below_step (bl_4 HB GE315 GE316 GE339 GE341) hb)
                 clear HO335
                 clear HO344
                 clear BK315
                 clear BK316
                 clear BK339
                 clear BK341
                 clear HB
                 have HO335 := n0_
                 have HO344 := n1_
                 have HO349 := n2_
                 have BK315 := n3_
                 have BK316 := n4_
                 have BK339 := n5_
                 have BK341 := n6_
                 have HB := n7_
                 clear n0_ n1_ n2_ n3_ n4_ n5_ n6_ n7_
                 (try clear hb)
                 (try clear hb2)
                 (try clear hk)
                 (try clear hi)
                 (try clear ho0)
                 obtain ⟨Ao58, co58, eo58⟩ := Kd.R_slice HO349.out
                 (first | subst eo58 | (injection eo58 with f1_ f2_ f3_; have f4_ := f1_.symm; have f5_ := f3_.symm; clear f1_ f2_ f3_; subst f4_; subst f5_))
                 refine hK.out _ _ ⟨(blk_cell BK339.out 0).trans rfl, (blk_cell BK339.out 1).trans rfl, (blk_cell BK339.out 2).trans rfl, (blk_cell BK341.out 0).trans rfl, (blk_cell BK341.out 1).trans rfl, (blk_cell BK341.out 2).trans rfl⟩ (fun hHeld => ?_)
                 clear hK K
                 refine norm_ (a' := ?_) ?_ ?_
                 rotate_left
                 ·show Act.put _ (some 76) _ = _
                  simp only [Act.put, List.setIfInBounds_toArray, List.set_cons_zero, List.set_cons_succ, i64_w, i32_w]
                  rfl
                 refine one_ (i := 5) (N := none) #[true, true, true, true, true, true, false] rfl rfl (by kernel_rfl) (by decide) (fun K hK => ?_)
                 have hs59 : w57.cell? ⟨gb316, 0, none⟩ = some (.slice none 0 0) := (blk_cell BK316.out 0).trans rfl
                 have hfs59 := blk_frozen BK316.out 0
                 have hns59_0 := NB315_316.out
                 have hns59_2 := NB339_316.out
                 have hns59_3 := NB341_316.out
                 have hms59_0 := NB316_315.out
                 have hms59_2 := NB316_339.out
                 have hms59_3 := NB316_341.out
                 have hs60 : w57.cell? ⟨gb316, 1, none⟩ = some (.bool false) := (blk_cell BK316.out 1).trans rfl
                 have hfs60 := blk_frozen BK316.out 1
                 have hns60_0 := NB315_316.out
                 have hns60_2 := NB339_316.out
                 have hns60_3 := NB341_316.out
                 have hms60_0 := NB316_315.out
                 have hms60_2 := NB316_339.out
                 have hms60_3 := NB316_341.out
                 have hs61 : w57.cell? ⟨gb316, 2, none⟩ = some (.int .i64 0) := (blk_cell BK316.out 2).trans rfl
                 have hfs61 := blk_frozen BK316.out 2
                 have hns61_0 := NB315_316.out
                 have hns61_2 := NB339_316.out
                 have hns61_3 := NB341_316.out
                 have hms61_0 := NB316_315.out
                 have hms61_2 := NB316_339.out
                 have hms61_3 := NB316_341.out
                 refine skip_ (w1 := ?_) (by rfl) rfl ?_ ?_
                 rotate_left
                 ·go_simp
                  rfl
                 refine hK.out _ _ ⟨((cell_far (p := ⟨gb316, _, none⟩) NB339_316.out _).trans (((cell_far (p := ⟨gb316, _, none⟩) NB339_316.out _).trans (((cell_far (p := ⟨gb316, _, none⟩) NB339_316.out _).trans (hHeld.1)))))), ((cell_far (p := ⟨gb316, _, none⟩) NB339_316.out _).trans (((cell_far (p := ⟨gb316, _, none⟩) NB339_316.out _).trans (((cell_far (p := ⟨gb316, _, none⟩) NB339_316.out _).trans (hHeld.2.1)))))), ((cell_far (p := ⟨gb316, _, none⟩) NB339_316.out _).trans (((cell_far (p := ⟨gb316, _, none⟩) NB339_316.out _).trans (((cell_far (p := ⟨gb316, _, none⟩) NB339_316.out _).trans (hHeld.2.2.1)))))), ((cell_far (p := ⟨gb316, _, none⟩) NB341_316.out _).trans (((cell_far (p := ⟨gb316, _, none⟩) NB341_316.out _).trans (((cell_far (p := ⟨gb316, _, none⟩) NB341_316.out _).trans (hHeld.2.2.2.1)))))), ((cell_far (p := ⟨gb316, _, none⟩) NB341_316.out _).trans (((cell_far (p := ⟨gb316, _, none⟩) NB341_316.out _).trans (((cell_far (p := ⟨gb316, _, none⟩) NB341_316.out _).trans (hHeld.2.2.2.2.1)))))), ((cell_far (p := ⟨gb316, _, none⟩) NB341_316.out _).trans (((cell_far (p := ⟨gb316, _, none⟩) NB341_316.out _).trans (((cell_far (p := ⟨gb316, _, none⟩) NB341_316.out _).trans (hHeld.2.2.2.2.2))))))⟩ (fun hHeld => ?_)
                 clear hK K
                 refine pure_ (i := 6) (N := some 7) (v := ?_) (a' := ?_) #[true, true, true, true, true, true, true] rfl rfl (by kernel_rfl) (fun _ _ _ h => h) (Or.inl ⟨by rfl, ?_⟩) ?_ ?_
                 rotate_left
                 ·intro w'
                  go_simp
                  with_reducible rfl
                 rotate_left
                 ·simp only [Act.put, List.setIfInBounds_toArray, List.set_cons_zero, List.set_cons_succ, i64_w, i32_w]
                  rfl
                 refine done_ (by kernel_rfl) ?_
                 try go_wp2
                 refine bodyPost_ret (results_ct rfl _ _ gb316 24 #[.slice Ao58 t347.length co58, .bool t350, .int .i64 t351] (0, 0) _ rfl (bp_0 BK316) Try.underlying24 rfl (by kernel_rfl)) rfl ?_
                 exact ⟨_, by first | rfl | (simp; done) | (simp [*]; done), by (with_reducible repeat (first | apply Kd.R_alloc | apply Kd.R_drewN | apply Kd.R_drew)); exact Kd.R_mono (Kd.R_far (p := ⟨gb316, 2, none⟩) (Kd.R_far (p := ⟨gb316, 1, none⟩) (Kd.R_far (p := ⟨gb316, 0, none⟩) (Kd.R_types HO349.out BK316.out (by decide)) (fun _ hk => hk.2) (.slice Ao58 t347.length co58)) (fun _ hk => hk.2) (.bool t350)) (fun _ hk => hk.2) (.int .i64 t351)) (fun _ hk => trivial), bl_4 HB GE315 GE316 GE339 GE341⟩
                ·rw [if_neg c35] at H
                 exact absurd H (by simp)
               ·rw [if_neg c34] at H
                exact absurd H (by simp)
              ·replace c33 := Bool.eq_false_iff.mpr c33
               subst c33
               have H1 : (some (t333, t336, t337, 8)) = some (r1, r2, r3, r4) := by rw [if_neg (show ¬ (false = true) by decide)] at H; exact H
               clear H
               have H := H1
               clear H1
               simp only [Option.some.injEq, Prod.mk.injEq] at H
               obtain ⟨rfl, rfl, rfl, rfl⟩ := H
               have hnb62 := NB315_316.out
               have hnc62 := NB316_315.out
               obtain ⟨hcz63_0, hcz63_1, hcz63_2, hfz63_0, hfz63_1, hfz63_2⟩ := c3_ BK315
               go_wp2_with (first | ((with_reducible refine gate_callee (f := 11) rfl ?_); refine goesL_ (some 58) rfl rfl Try.func11 (by kernel_rfl) rfl #[.agg #[.slice A0_0 l0_0.length c0_0, .bool a0_1, .int .i64 a0_2]] rfl (ar_) ?_; (with_reducible refine (gafferref02_Copy.calls _ _ l0_0 a0_1 a0_2 t328 t331 t332 _ ?side1 ?side2 A31.out).mono ?_); (case side1 => repeat (first | exact (Kd.C_below HR0_0.out HB.out) | (with_reducible refine Kd.C_alloc ?_ _) | (with_reducible refine Kd.C_drewN ?_ _) | (with_reducible refine Kd.C_drew ?_))); (case side2 => exact HC0_0.out); rintro e w64 ⟨v329, rfl, ho0, hb⟩; refine ⟨_, rfl, ?_⟩; have HO330 := Aside0.mk (Kd.R_lower ho0 (below_size (bl_2 HB GE315 GE316))); replace BK315 := Aside0.mk (bb_ BK315 hb); replace BK316 := Aside0.mk (bb_ BK316 hb); replace HB := Aside0.mk (below_step (bl_2 HB GE315 GE316) hb); (try clear hb); (try clear hb2); (try clear hk); (try clear hi); (try clear ho0); obtain ⟨Ao65, co65, eo65⟩ := Kd.R_slice HO330.out; subst eo65) | ((with_reducible refine gate_callee (f := 40) rfl ?_); refine goesL_ (some 59) rfl rfl Try.func40 (by kernel_rfl) rfl #[.agg #[.slice Ao65 t328.length co65, .bool t331, .int .i64 t332]] rfl (ar_) ?_; (with_reducible refine (gafferref02_burnt.calls (fun k_ => some k_ = (.slice Ao65 t328.length co65 : Value).ownBlock) (.slice Ao65 t328.length co65) t328 t331 t332 t333 t336 t337 false w _ ?side1 ?side2 A32.out).mono ?_); (case side1 => repeat (first | (with_reducible first | exact HB.out | apply below_alloc | apply pw_below_drewN | apply below_drew1 | refine below_set ?_ GE315.out | refine below_set ?_ GE316.out) | exact HB.out)); (case side2 => exact Kd.R_tight rfl HO330.out); rintro e w66 ⟨v334, rfl, ho0, hb, hkp⟩; refine ⟨_, rfl, ?_⟩; replace BK315 := Aside0.mk (blk_kept (bk_ BK315) hkp (fun hs_ => (fun e_ => (Kd.R_ne HO330.out BK315.out (by decide)) e_) hs_)); replace BK316 := Aside0.mk (blk_kept (bk_ BK316) hkp (fun hs_ => (fun e_ => (Kd.R_ne HO330.out BK316.out (by decide)) e_) hs_)); have HO335 := Aside0.mk (Kd.R_mono (ok' := fun k_ => True) ho0 (fun k_ hk_ => trivial)); replace HB := Aside0.mk (hb); clear HO330; (try clear hb); (try clear hkp); (try clear ho0)) | ((with_reducible refine gate_dst (N := 10) rfl ?_); (try (refine gate_guard (by rfl) ?_; dsimp only)); refine box_event ?hg (N := 10) ?hd (cs := #[.slice none 0 0, .bool false, .int .i64 0]) (t := 24) ?hr ?_; (case hd => rfl); (case hg => rfl); (case hr => first | (go_simp; done) | (go_simp; rfl)); intro gb339 hg w67 hbox hb; replace HO335 := Aside0.mk (Kd.R_below (by (with_reducible repeat (first | apply Kd.R_alloc | apply Kd.R_drewN | apply Kd.R_drew)); exact HO335.out) hb); have BK339 := Aside0.mk (hbox); have GW339 := Aside0.mk (bs_2 hg HB GE315 GE316); have GE339 := Aside0.mk (bs_2 hg HB GE315 GE316); replace HB := Aside0.mk (below_step (bl_2 HB GE315 GE316) hb); have NB315_339 := Aside0.mk (nb_ hg BK315); have NB339_315 := Aside0.mk (nc_ hg BK315); replace BK315 := Aside0.mk (bb_ BK315 hb); have NB316_339 := Aside0.mk (nb_ hg BK316); have NB339_316 := Aside0.mk (nc_ hg BK316); replace BK316 := Aside0.mk (bb_ BK316 hb); clear hb hbox hg; obtain ⟨Ao68, co68, eo68⟩ := Kd.R_slice HO335.out; subst eo68; have hnb69 := NB339_315.out; have hnc69 := NB315_339.out; have hnb70 := NB339_316.out; have hnc70 := NB316_339.out; obtain ⟨hcz71_0, hcz71_1, hcz71_2, hfz71_0, hfz71_1, hfz71_2⟩ := c3_ BK339; obtain ⟨hcz72_0, hcz72_1, hcz72_2, hfz72_0, hfz72_1, hfz72_2⟩ := c3_ BK316))
               refine bodyPost_ret (results_ct rfl _ _ gb316 24 #[.slice Ao68 t333.length co68, .bool t336, .int .i64 t337] (0, 0) _ rfl (bp_1 BK316 NB316_339) Try.underlying24 rfl (by kernel_rfl)) rfl ?_
               exact ⟨_, by first | rfl | (simp; done) | (simp [*]; done), by (with_reducible repeat (first | apply Kd.R_alloc | apply Kd.R_drewN | apply Kd.R_drew)); exact Kd.R_mono (Kd.R_far (p := ⟨gb316, 2, none⟩) (Kd.R_far (p := ⟨gb316, 1, none⟩) (Kd.R_far (p := ⟨gb316, 0, none⟩) (Kd.R_far (p := ⟨gb339, 2, none⟩) (Kd.R_far (p := ⟨gb339, 1, none⟩) (Kd.R_far (p := ⟨gb339, 0, none⟩) (Kd.R_types (Kd.R_types HO335.out BK339.out (by decide)) BK316.out (by decide)) (fun _ hk => hk.1.2) (.slice Ao68 t333.length co68)) (fun _ hk => hk.1.2) (.bool t336)) (fun _ hk => hk.1.2) (.int .i64 t337)) (fun _ hk => hk.2) (.slice Ao68 t333.length co68)) (fun _ hk => hk.2) (.bool t336)) (fun _ hk => hk.2) (.int .i64 t337)) (fun _ hk => trivial), bl_3 HB GE315 GE316 GE339⟩
             ·rw [if_neg c30] at H
              have c30b0 : (x8_27 == 0) = false := beq_eq_false_iff_ne.mpr c30
              have c30b1 : (x8_27 != 0) = true := bne_iff_ne.mpr c30
              replace H := Option.bind_eq_some_iff.mp H
              obtain ⟨⟨t322, t325, t326, t327⟩, A730, H⟩ := H
              replace H : (some (t322, t325, t326, t327)) = some (r1, r2, r3, r4) := H
              have A73 := Aside0.mk A730
              clear A730
              simp only [Option.some.injEq, Prod.mk.injEq] at H
              obtain ⟨rfl, rfl, rfl, rfl⟩ := H
              have hnb74 := NB315_316.out
              have hnc74 := NB316_315.out
              obtain ⟨hcz75_0, hcz75_1, hcz75_2, hfz75_0, hfz75_1, hfz75_2⟩ := c3_ BK315
              go_wp2_with (first | ((with_reducible refine gate_callee (f := 39) rfl ?_); refine goesL_ (some 53) rfl rfl Try.func39 (by kernel_rfl) rfl #[.agg #[.slice A0_0 l0_0.length c0_0, .bool a0_1, .int .i64 a0_2], .int .i64 x8_27] rfl (ar_) ?_; (with_reducible refine (gafferref02_bad.calls _ _ l0_0 a0_1 a0_2 x8_27 t322 t325 t326 t327 _ ?side1 ?side2 A73.out).mono ?_); (case side1 => repeat (first | exact (Kd.C_below HR0_0.out HB.out) | (with_reducible refine Kd.C_alloc ?_ _) | (with_reducible refine Kd.C_drewN ?_ _) | (with_reducible refine Kd.C_drew ?_))); (case side2 => exact HC0_0.out); rintro e w76 ⟨v323, rfl, ho0, hb⟩; refine ⟨_, rfl, ?_⟩; have HO324 := Aside0.mk (Kd.R_lower ho0 (below_size (bl_2 HB GE315 GE316))); replace BK315 := Aside0.mk (bb_ BK315 hb); replace BK316 := Aside0.mk (bb_ BK316 hb); replace HB := Aside0.mk (below_step (bl_2 HB GE315 GE316) hb); (try clear hb); (try clear hb2); (try clear hk); (try clear hi); (try clear ho0); obtain ⟨Ao77, co77, eo77⟩ := Kd.R_slice HO324.out; subst eo77; obtain ⟨hcz78_0, hcz78_1, hcz78_2, hfz78_0, hfz78_1, hfz78_2⟩ := c3_ BK316))
              refine bodyPost_ret (results_ct rfl _ _ gb316 24 #[.slice Ao77 t322.length co77, .bool t325, .int .i64 t326] (0, 0) _ rfl (bp_0 BK316) Try.underlying24 rfl (by kernel_rfl)) rfl ?_
              exact ⟨_, by first | rfl | (simp; done) | (simp [*]; done), by (with_reducible repeat (first | apply Kd.R_alloc | apply Kd.R_drewN | apply Kd.R_drew)); exact Kd.R_mono (Kd.R_far (p := ⟨gb316, 2, none⟩) (Kd.R_far (p := ⟨gb316, 1, none⟩) (Kd.R_far (p := ⟨gb316, 0, none⟩) (Kd.R_types HO324.out BK316.out (by decide)) (fun _ hk => hk.2) (.slice Ao77 t322.length co77)) (fun _ hk => hk.2) (.bool t325)) (fun _ hk => hk.2) (.int .i64 t326)) (fun _ hk => trivial), bl_2 HB GE315 GE316⟩

end Go.Proofs.Ytpdacpopkegecaa.PA
