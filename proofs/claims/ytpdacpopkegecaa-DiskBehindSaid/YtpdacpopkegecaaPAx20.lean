-- Written for this claim by a program of this session. Lean checks it.
import Derived.Test.YtpdacpopkegecaaPAx0
import Derived.Test.YtpdacpopkegecaaPAx3
import Derived.Test.YtpdacpopkegecaaPAx4
import Derived.Test.YtpdacpopkegecaaPAx8
namespace Go.Proofs.Ytpdacpopkegecaa.PA
open Go.RowKit Go.Proofs.YtpdacpopkegecaaW.PrintWords Go.Proofs.YtpdacpopkegecaaW.PrintLast Go.Proofs.YtpdacpopkegecaaW.PrintMore Go.Proofs.Ytpdacpopkegecaa.Sh Go.Proofs.Ytpdacpopkegecaa.Op
attribute [local go_sem] max2_int min2_int max_two min_two max_three min_three max_four min_four   -- for this text's walks alone
set_option linter.unusedVariables false
set_option linter.unusedSimpArgs false

/-! ### gafferlaw02_DiskBehind: function 5 -/
def gafferlaw02_DiskBehind.j0 : Nat → ByteArray → List Int → ByteArray → Bool → List (S35) → Bool → Int → Option (Bool)
 | 0, _, _, _, _, _, _, _ => none
 | k + 1, x1, x4, x15, x103, x722000, x722001, x722002 => if x103 = true then (some false) else ((disk_Sync.f k x722000 x722001 x722002 x1).bind fun bt730 => (if bt730.2.2.2 = 0 then ((disk_Crash.f k bt730.1 bt730.2.1 bt730.2.2.1 x4).bind fun bt737 => ((disk_Read.f k bt737.1 bt737.2.1 bt737.2.2.1 x1).bind fun bt743 => (if bt743.2 = 0 then (some (bt743.1.toList == x15.toList)) else (some false)))) else (if bt730.2.2.2 = 8 then (some bt730.2.1) else (some false))))
def gafferlaw02_DiskBehind.f (k : Nat) (l0_0 : List (S35)) (a0_1 : Bool) (a0_2 : Int) (a1 : ByteArray) (a2 : ByteArray) (a3 : ByteArray) (l4 : List Int) : Option (Bool) := (gafferlaw02_lives.f k).bind fun t712 => (if t712 = true then ((disk_Read.f k l0_0 a0_1 a0_2 a1).bind fun bt713 => ((disk_Add.f k l0_0 a0_1 a0_2 a1 a2).bind fun bt715 => (if bt715.2.2.2 = 0 then ((disk_Read.f k bt715.1 bt715.2.1 bt715.2.2.1 a1).bind fun bt724 => ((disk_Read.f k l0_0 a0_1 a0_2 a3).bind fun bt726 => ((disk_Read.f k bt715.1 bt715.2.1 bt715.2.2.1 a3).bind fun bt728 => (if bt713.2 = 0 then (if bt724.2 = 0 then (if bt713.1.size + a2.size ≤ 9223372036854775807 then (if bt724.1.toList = (bt713.1 ++ a2).toList then (if a3.toList = a1.toList then (gafferlaw02_DiskBehind.j0 k a1 l4 bt724.1 false bt715.1 bt715.2.1 bt715.2.2.1) else (if bt726.1.toList = bt728.1.toList then (gafferlaw02_DiskBehind.j0 k a1 l4 bt724.1 (bt726.2 != bt728.2) bt715.1 bt715.2.1 bt715.2.2.1) else (gafferlaw02_DiskBehind.j0 k a1 l4 bt724.1 true bt715.1 bt715.2.1 bt715.2.2.1))) else (gafferlaw02_DiskBehind.j0 k a1 l4 bt724.1 true bt715.1 bt715.2.1 bt715.2.2.1)) else (none)) else (gafferlaw02_DiskBehind.j0 k a1 l4 bt724.1 true bt715.1 bt715.2.1 bt715.2.2.1)) else (if bt713.2 = 6 then (if bt724.2 = 0 then (if bt713.1.size + a2.size ≤ 9223372036854775807 then (if bt724.1.toList = (bt713.1 ++ a2).toList then (if a3.toList = a1.toList then (gafferlaw02_DiskBehind.j0 k a1 l4 bt724.1 false bt715.1 bt715.2.1 bt715.2.2.1) else (if bt726.1.toList = bt728.1.toList then (gafferlaw02_DiskBehind.j0 k a1 l4 bt724.1 (bt726.2 != bt728.2) bt715.1 bt715.2.1 bt715.2.2.1) else (gafferlaw02_DiskBehind.j0 k a1 l4 bt724.1 true bt715.1 bt715.2.1 bt715.2.2.1))) else (gafferlaw02_DiskBehind.j0 k a1 l4 bt724.1 true bt715.1 bt715.2.1 bt715.2.2.1)) else (none)) else (gafferlaw02_DiskBehind.j0 k a1 l4 bt724.1 true bt715.1 bt715.2.1 bt715.2.2.1)) else (gafferlaw02_DiskBehind.j0 k a1 l4 bt724.1 true bt715.1 bt715.2.1 bt715.2.2.1)))))) else (if bt715.2.2.2 = 8 then (some true) else ((gafferref02_Same.f k bt715.1 bt715.2.1 bt715.2.2.1 ([] : List (S35)) false 0).bind fun t722 => (if t722 = true then (some true) else ((gafferref02_Same.f k bt715.1 bt715.2.1 bt715.2.2.1 l0_0 a0_1 a0_2).bind fun t723 => (some t723)))))))) else (some false))
theorem gafferlaw02_DiskBehind.mono_l : ∀ k, (∀ y0 y1 y2 y3 y4 y5 y6, LeO (gafferlaw02_DiskBehind.j0 k y0 y1 y2 y3 y4 y5 y6) (gafferlaw02_DiskBehind.j0 (k + 1) y0 y1 y2 y3 y4 y5 y6))
 | 0 => fun _ _ _ _ _ _ _ r h => by simp [gafferlaw02_DiskBehind.j0] at h
 | k + 1 => by
  have ih0 := gafferlaw02_DiskBehind.mono_l k
  ·intro y0 y1 y2 y3 y4 y5 y6
   unfold gafferlaw02_DiskBehind.j0
   repeat' first
   | (with_reducible exact ih0 _ _ _ _ _ _ _)
   | (with_reducible exact disk_Add.mono _ _ _ _ _ _)
   | (with_reducible exact disk_Crash.mono _ _ _ _ _)
   | (with_reducible exact disk_Read.mono _ _ _ _ _)
   | (with_reducible exact disk_Sync.mono _ _ _ _ _)
   | (with_reducible exact gafferlaw02_lives.mono _)
   | (with_reducible exact gafferref02_Same.mono _ _ _ _ _ _ _)
   | (with_reducible exact LeO.refl _)
   | (with_reducible exact LeO.none _)
   | (with_reducible refine LeO.ite ?_ ?_)
   | (with_reducible refine LeO.bind ?_ (fun _ => ?_))
   | exact ih0 _ _ _ _ _ _ _
   | exact disk_Add.mono _ _ _ _ _ _
   | exact disk_Crash.mono _ _ _ _ _
   | exact disk_Read.mono _ _ _ _ _
   | exact disk_Sync.mono _ _ _ _ _
   | exact gafferlaw02_lives.mono _
   | exact gafferref02_Same.mono _ _ _ _ _ _ _
   | exact LeO.none _
   | refine LeO.ite ?_ ?_
   | refine LeO.bind ?_ (fun _ => ?_)
theorem gafferlaw02_DiskBehind.mono : ∀ a0 a1 a2 a3 a4 a5 a6 k, LeO (gafferlaw02_DiskBehind.f k a0 a1 a2 a3 a4 a5 a6) (gafferlaw02_DiskBehind.f (k + 1) a0 a1 a2 a3 a4 a5 a6) := by
 intro a0 a1 a2 a3 a4 a5 a6 k
 have ih0 := gafferlaw02_DiskBehind.mono_l k
 unfold gafferlaw02_DiskBehind.f
 repeat' first
   | (with_reducible exact ih0 _ _ _ _ _ _ _)
   | (with_reducible exact disk_Add.mono _ _ _ _ _ _)
   | (with_reducible exact disk_Crash.mono _ _ _ _ _)
   | (with_reducible exact disk_Read.mono _ _ _ _ _)
   | (with_reducible exact disk_Sync.mono _ _ _ _ _)
   | (with_reducible exact gafferlaw02_lives.mono _)
   | (with_reducible exact gafferref02_Same.mono _ _ _ _ _ _ _)
   | (with_reducible exact LeO.refl _)
   | (with_reducible exact LeO.none _)
   | (with_reducible refine LeO.ite ?_ ?_)
   | (with_reducible refine LeO.bind ?_ (fun _ => ?_))
   | exact ih0 _ _ _ _ _ _ _
   | exact disk_Add.mono _ _ _ _ _ _
   | exact disk_Crash.mono _ _ _ _ _
   | exact disk_Read.mono _ _ _ _ _
   | exact disk_Sync.mono _ _ _ _ _
   | exact gafferlaw02_lives.mono _
   | exact gafferref02_Same.mono _ _ _ _ _ _ _
   | exact LeO.none _
   | refine LeO.ite ?_ ?_
   | refine LeO.bind ?_ (fun _ => ?_)
set_option maxHeartbeats 80000000 in
set_option maxRecDepth 100000 in
theorem gafferlaw02_DiskBehind.calls (k : Nat) (A0_0 : Option Addr) (c0_0 : Nat) (l0_0 : List (S35)) (a0_1 : Bool) (a0_2 : Int) (a1 : ByteArray) (a2 : ByteArray) (a3 : ByteArray) (A4 : Option Addr) (c4 : Nat) (l4 : List Int) (r : Bool) (w : World) (hr0_0 : Kd.C k35 w A0_0 l0_0.length l0_0) (hc0_0 : l0_0.length ≤ c0_0) (hr4 : Kd.C (Kd.int .i64) w A4 l4.length l4) (hc4 : l4.length ≤ c4) (h : gafferlaw02_DiskBehind.f k l0_0 a0_1 a0_2 a1 a2 a3 l4 = some r) (hr : r = true) :
  Calls Try.prog 5 #[.agg #[.slice A0_0 l0_0.length c0_0, .bool a0_1, .int .i64 a0_2], .string a1, .string a2, .string a3, .slice A4 l4.length c4] w fun e w' => e = .returned (.bool r) ∧ Below w.heap.size w w' := by
 have hu24 := Try.underlying24
 have HR0_0 := Aside0.mk hr0_0
 have HC0_0 := Aside0.mk hc0_0
 clear hr0_0 hc0_0
 have HR4 := Aside0.mk hr4
 have HC4 := Aside0.mk hc4
 clear hr4 hc4
 have HB := Aside0.mk (Below.refl w.heap.size w)
 have H : ((gafferlaw02_lives.f k).bind fun t712 => (if t712 = true then ((disk_Read.f k l0_0 a0_1 a0_2 a1).bind fun bt713 => ((disk_Add.f k l0_0 a0_1 a0_2 a1 a2).bind fun bt715 => (if bt715.2.2.2 = 0 then ((disk_Read.f k bt715.1 bt715.2.1 bt715.2.2.1 a1).bind fun bt724 => ((disk_Read.f k l0_0 a0_1 a0_2 a3).bind fun bt726 => ((disk_Read.f k bt715.1 bt715.2.1 bt715.2.2.1 a3).bind fun bt728 => (if bt713.2 = 0 then (if bt724.2 = 0 then (if bt713.1.size + a2.size ≤ 9223372036854775807 then (if bt724.1.toList = (bt713.1 ++ a2).toList then (if a3.toList = a1.toList then (gafferlaw02_DiskBehind.j0 k a1 l4 bt724.1 false bt715.1 bt715.2.1 bt715.2.2.1) else (if bt726.1.toList = bt728.1.toList then (gafferlaw02_DiskBehind.j0 k a1 l4 bt724.1 (bt726.2 != bt728.2) bt715.1 bt715.2.1 bt715.2.2.1) else (gafferlaw02_DiskBehind.j0 k a1 l4 bt724.1 true bt715.1 bt715.2.1 bt715.2.2.1))) else (gafferlaw02_DiskBehind.j0 k a1 l4 bt724.1 true bt715.1 bt715.2.1 bt715.2.2.1)) else (none)) else (gafferlaw02_DiskBehind.j0 k a1 l4 bt724.1 true bt715.1 bt715.2.1 bt715.2.2.1)) else (if bt713.2 = 6 then (if bt724.2 = 0 then (if bt713.1.size + a2.size ≤ 9223372036854775807 then (if bt724.1.toList = (bt713.1 ++ a2).toList then (if a3.toList = a1.toList then (gafferlaw02_DiskBehind.j0 k a1 l4 bt724.1 false bt715.1 bt715.2.1 bt715.2.2.1) else (if bt726.1.toList = bt728.1.toList then (gafferlaw02_DiskBehind.j0 k a1 l4 bt724.1 (bt726.2 != bt728.2) bt715.1 bt715.2.1 bt715.2.2.1) else (gafferlaw02_DiskBehind.j0 k a1 l4 bt724.1 true bt715.1 bt715.2.1 bt715.2.2.1))) else (gafferlaw02_DiskBehind.j0 k a1 l4 bt724.1 true bt715.1 bt715.2.1 bt715.2.2.1)) else (none)) else (gafferlaw02_DiskBehind.j0 k a1 l4 bt724.1 true bt715.1 bt715.2.1 bt715.2.2.1)) else (gafferlaw02_DiskBehind.j0 k a1 l4 bt724.1 true bt715.1 bt715.2.1 bt715.2.2.1)))))) else (if bt715.2.2.2 = 8 then (some true) else ((gafferref02_Same.f k bt715.1 bt715.2.1 bt715.2.2.1 ([] : List (S35)) false 0).bind fun t722 => (if t722 = true then (some true) else ((gafferref02_Same.f k bt715.1 bt715.2.1 bt715.2.2.1 l0_0 a0_1 a0_2).bind fun t723 => (some t723)))))))) else (some false))) = some r := h
 clear h
 replace H := Option.bind_eq_some_iff.mp H
 obtain ⟨t712, A60, H⟩ := H
 replace H : (if t712 = true then ((disk_Read.f k l0_0 a0_1 a0_2 a1).bind fun bt713 => ((disk_Add.f k l0_0 a0_1 a0_2 a1 a2).bind fun bt715 => (if bt715.2.2.2 = 0 then ((disk_Read.f k bt715.1 bt715.2.1 bt715.2.2.1 a1).bind fun bt724 => ((disk_Read.f k l0_0 a0_1 a0_2 a3).bind fun bt726 => ((disk_Read.f k bt715.1 bt715.2.1 bt715.2.2.1 a3).bind fun bt728 => (if bt713.2 = 0 then (if bt724.2 = 0 then (if bt713.1.size + a2.size ≤ 9223372036854775807 then (if bt724.1.toList = (bt713.1 ++ a2).toList then (if a3.toList = a1.toList then (gafferlaw02_DiskBehind.j0 k a1 l4 bt724.1 false bt715.1 bt715.2.1 bt715.2.2.1) else (if bt726.1.toList = bt728.1.toList then (gafferlaw02_DiskBehind.j0 k a1 l4 bt724.1 (bt726.2 != bt728.2) bt715.1 bt715.2.1 bt715.2.2.1) else (gafferlaw02_DiskBehind.j0 k a1 l4 bt724.1 true bt715.1 bt715.2.1 bt715.2.2.1))) else (gafferlaw02_DiskBehind.j0 k a1 l4 bt724.1 true bt715.1 bt715.2.1 bt715.2.2.1)) else (none)) else (gafferlaw02_DiskBehind.j0 k a1 l4 bt724.1 true bt715.1 bt715.2.1 bt715.2.2.1)) else (if bt713.2 = 6 then (if bt724.2 = 0 then (if bt713.1.size + a2.size ≤ 9223372036854775807 then (if bt724.1.toList = (bt713.1 ++ a2).toList then (if a3.toList = a1.toList then (gafferlaw02_DiskBehind.j0 k a1 l4 bt724.1 false bt715.1 bt715.2.1 bt715.2.2.1) else (if bt726.1.toList = bt728.1.toList then (gafferlaw02_DiskBehind.j0 k a1 l4 bt724.1 (bt726.2 != bt728.2) bt715.1 bt715.2.1 bt715.2.2.1) else (gafferlaw02_DiskBehind.j0 k a1 l4 bt724.1 true bt715.1 bt715.2.1 bt715.2.2.1))) else (gafferlaw02_DiskBehind.j0 k a1 l4 bt724.1 true bt715.1 bt715.2.1 bt715.2.2.1)) else (none)) else (gafferlaw02_DiskBehind.j0 k a1 l4 bt724.1 true bt715.1 bt715.2.1 bt715.2.2.1)) else (gafferlaw02_DiskBehind.j0 k a1 l4 bt724.1 true bt715.1 bt715.2.1 bt715.2.2.1)))))) else (if bt715.2.2.2 = 8 then (some true) else ((gafferref02_Same.f k bt715.1 bt715.2.1 bt715.2.2.1 ([] : List (S35)) false 0).bind fun t722 => (if t722 = true then (some true) else ((gafferref02_Same.f k bt715.1 bt715.2.1 bt715.2.2.1 l0_0 a0_1 a0_2).bind fun t723 => (some t723)))))))) else (some false)) = some r := H
 have A6 := Aside0.mk A60
 clear A60
 by_cases c7 : t712 = true
 ·subst c7
  have H1 : ((disk_Read.f k l0_0 a0_1 a0_2 a1).bind fun bt713 => ((disk_Add.f k l0_0 a0_1 a0_2 a1 a2).bind fun bt715 => (if bt715.2.2.2 = 0 then ((disk_Read.f k bt715.1 bt715.2.1 bt715.2.2.1 a1).bind fun bt724 => ((disk_Read.f k l0_0 a0_1 a0_2 a3).bind fun bt726 => ((disk_Read.f k bt715.1 bt715.2.1 bt715.2.2.1 a3).bind fun bt728 => (if bt713.2 = 0 then (if bt724.2 = 0 then (if bt713.1.size + a2.size ≤ 9223372036854775807 then (if bt724.1.toList = (bt713.1 ++ a2).toList then (if a3.toList = a1.toList then (gafferlaw02_DiskBehind.j0 k a1 l4 bt724.1 false bt715.1 bt715.2.1 bt715.2.2.1) else (if bt726.1.toList = bt728.1.toList then (gafferlaw02_DiskBehind.j0 k a1 l4 bt724.1 (bt726.2 != bt728.2) bt715.1 bt715.2.1 bt715.2.2.1) else (gafferlaw02_DiskBehind.j0 k a1 l4 bt724.1 true bt715.1 bt715.2.1 bt715.2.2.1))) else (gafferlaw02_DiskBehind.j0 k a1 l4 bt724.1 true bt715.1 bt715.2.1 bt715.2.2.1)) else (none)) else (gafferlaw02_DiskBehind.j0 k a1 l4 bt724.1 true bt715.1 bt715.2.1 bt715.2.2.1)) else (if bt713.2 = 6 then (if bt724.2 = 0 then (if bt713.1.size + a2.size ≤ 9223372036854775807 then (if bt724.1.toList = (bt713.1 ++ a2).toList then (if a3.toList = a1.toList then (gafferlaw02_DiskBehind.j0 k a1 l4 bt724.1 false bt715.1 bt715.2.1 bt715.2.2.1) else (if bt726.1.toList = bt728.1.toList then (gafferlaw02_DiskBehind.j0 k a1 l4 bt724.1 (bt726.2 != bt728.2) bt715.1 bt715.2.1 bt715.2.2.1) else (gafferlaw02_DiskBehind.j0 k a1 l4 bt724.1 true bt715.1 bt715.2.1 bt715.2.2.1))) else (gafferlaw02_DiskBehind.j0 k a1 l4 bt724.1 true bt715.1 bt715.2.1 bt715.2.2.1)) else (none)) else (gafferlaw02_DiskBehind.j0 k a1 l4 bt724.1 true bt715.1 bt715.2.1 bt715.2.2.1)) else (gafferlaw02_DiskBehind.j0 k a1 l4 bt724.1 true bt715.1 bt715.2.1 bt715.2.2.1)))))) else (if bt715.2.2.2 = 8 then (some true) else ((gafferref02_Same.f k bt715.1 bt715.2.1 bt715.2.2.1 ([] : List (S35)) false 0).bind fun t722 => (if t722 = true then (some true) else ((gafferref02_Same.f k bt715.1 bt715.2.1 bt715.2.2.1 l0_0 a0_1 a0_2).bind fun t723 => (some t723)))))))) = some r := by rw [if_pos rfl] at H; exact H
  clear H
  have H := H1
  clear H1
  replace H := Option.bind_eq_some_iff.mp H
  obtain ⟨⟨t713, t714⟩, A80, H⟩ := H
  replace H : ((disk_Add.f k l0_0 a0_1 a0_2 a1 a2).bind fun bt715 => (if bt715.2.2.2 = 0 then ((disk_Read.f k bt715.1 bt715.2.1 bt715.2.2.1 a1).bind fun bt724 => ((disk_Read.f k l0_0 a0_1 a0_2 a3).bind fun bt726 => ((disk_Read.f k bt715.1 bt715.2.1 bt715.2.2.1 a3).bind fun bt728 => (if t714 = 0 then (if bt724.2 = 0 then (if t713.size + a2.size ≤ 9223372036854775807 then (if bt724.1.toList = (t713 ++ a2).toList then (if a3.toList = a1.toList then (gafferlaw02_DiskBehind.j0 k a1 l4 bt724.1 false bt715.1 bt715.2.1 bt715.2.2.1) else (if bt726.1.toList = bt728.1.toList then (gafferlaw02_DiskBehind.j0 k a1 l4 bt724.1 (bt726.2 != bt728.2) bt715.1 bt715.2.1 bt715.2.2.1) else (gafferlaw02_DiskBehind.j0 k a1 l4 bt724.1 true bt715.1 bt715.2.1 bt715.2.2.1))) else (gafferlaw02_DiskBehind.j0 k a1 l4 bt724.1 true bt715.1 bt715.2.1 bt715.2.2.1)) else (none)) else (gafferlaw02_DiskBehind.j0 k a1 l4 bt724.1 true bt715.1 bt715.2.1 bt715.2.2.1)) else (if t714 = 6 then (if bt724.2 = 0 then (if t713.size + a2.size ≤ 9223372036854775807 then (if bt724.1.toList = (t713 ++ a2).toList then (if a3.toList = a1.toList then (gafferlaw02_DiskBehind.j0 k a1 l4 bt724.1 false bt715.1 bt715.2.1 bt715.2.2.1) else (if bt726.1.toList = bt728.1.toList then (gafferlaw02_DiskBehind.j0 k a1 l4 bt724.1 (bt726.2 != bt728.2) bt715.1 bt715.2.1 bt715.2.2.1) else (gafferlaw02_DiskBehind.j0 k a1 l4 bt724.1 true bt715.1 bt715.2.1 bt715.2.2.1))) else (gafferlaw02_DiskBehind.j0 k a1 l4 bt724.1 true bt715.1 bt715.2.1 bt715.2.2.1)) else (none)) else (gafferlaw02_DiskBehind.j0 k a1 l4 bt724.1 true bt715.1 bt715.2.1 bt715.2.2.1)) else (gafferlaw02_DiskBehind.j0 k a1 l4 bt724.1 true bt715.1 bt715.2.1 bt715.2.2.1)))))) else (if bt715.2.2.2 = 8 then (some true) else ((gafferref02_Same.f k bt715.1 bt715.2.1 bt715.2.2.1 ([] : List (S35)) false 0).bind fun t722 => (if t722 = true then (some true) else ((gafferref02_Same.f k bt715.1 bt715.2.1 bt715.2.2.1 l0_0 a0_1 a0_2).bind fun t723 => (some t723))))))) = some r := H
  have A8 := Aside0.mk A80
  clear A80
  replace H := Option.bind_eq_some_iff.mp H
  obtain ⟨⟨t715, t718, t719, t720⟩, A90, H⟩ := H
  replace H : (if t720 = 0 then ((disk_Read.f k t715 t718 t719 a1).bind fun bt724 => ((disk_Read.f k l0_0 a0_1 a0_2 a3).bind fun bt726 => ((disk_Read.f k t715 t718 t719 a3).bind fun bt728 => (if t714 = 0 then (if bt724.2 = 0 then (if t713.size + a2.size ≤ 9223372036854775807 then (if bt724.1.toList = (t713 ++ a2).toList then (if a3.toList = a1.toList then (gafferlaw02_DiskBehind.j0 k a1 l4 bt724.1 false t715 t718 t719) else (if bt726.1.toList = bt728.1.toList then (gafferlaw02_DiskBehind.j0 k a1 l4 bt724.1 (bt726.2 != bt728.2) t715 t718 t719) else (gafferlaw02_DiskBehind.j0 k a1 l4 bt724.1 true t715 t718 t719))) else (gafferlaw02_DiskBehind.j0 k a1 l4 bt724.1 true t715 t718 t719)) else (none)) else (gafferlaw02_DiskBehind.j0 k a1 l4 bt724.1 true t715 t718 t719)) else (if t714 = 6 then (if bt724.2 = 0 then (if t713.size + a2.size ≤ 9223372036854775807 then (if bt724.1.toList = (t713 ++ a2).toList then (if a3.toList = a1.toList then (gafferlaw02_DiskBehind.j0 k a1 l4 bt724.1 false t715 t718 t719) else (if bt726.1.toList = bt728.1.toList then (gafferlaw02_DiskBehind.j0 k a1 l4 bt724.1 (bt726.2 != bt728.2) t715 t718 t719) else (gafferlaw02_DiskBehind.j0 k a1 l4 bt724.1 true t715 t718 t719))) else (gafferlaw02_DiskBehind.j0 k a1 l4 bt724.1 true t715 t718 t719)) else (none)) else (gafferlaw02_DiskBehind.j0 k a1 l4 bt724.1 true t715 t718 t719)) else (gafferlaw02_DiskBehind.j0 k a1 l4 bt724.1 true t715 t718 t719)))))) else (if t720 = 8 then (some true) else ((gafferref02_Same.f k t715 t718 t719 ([] : List (S35)) false 0).bind fun t722 => (if t722 = true then (some true) else ((gafferref02_Same.f k t715 t718 t719 l0_0 a0_1 a0_2).bind fun t723 => (some t723)))))) = some r := H
  have A9 := Aside0.mk A90
  clear A90
  by_cases c10 : t720 = 0
  ·rw [if_pos c10] at H
   have c10b0 : (t720 == 0) = true := beq_iff_eq.mpr c10
   have c10b1 : (t720 != 0) = false := bne_eq_false_iff_eq.mpr c10
   clear c10
   replace H := Option.bind_eq_some_iff.mp H
   obtain ⟨⟨t724, t725⟩, A110, H⟩ := H
   replace H : ((disk_Read.f k l0_0 a0_1 a0_2 a3).bind fun bt726 => ((disk_Read.f k t715 t718 t719 a3).bind fun bt728 => (if t714 = 0 then (if t725 = 0 then (if t713.size + a2.size ≤ 9223372036854775807 then (if t724.toList = (t713 ++ a2).toList then (if a3.toList = a1.toList then (gafferlaw02_DiskBehind.j0 k a1 l4 t724 false t715 t718 t719) else (if bt726.1.toList = bt728.1.toList then (gafferlaw02_DiskBehind.j0 k a1 l4 t724 (bt726.2 != bt728.2) t715 t718 t719) else (gafferlaw02_DiskBehind.j0 k a1 l4 t724 true t715 t718 t719))) else (gafferlaw02_DiskBehind.j0 k a1 l4 t724 true t715 t718 t719)) else (none)) else (gafferlaw02_DiskBehind.j0 k a1 l4 t724 true t715 t718 t719)) else (if t714 = 6 then (if t725 = 0 then (if t713.size + a2.size ≤ 9223372036854775807 then (if t724.toList = (t713 ++ a2).toList then (if a3.toList = a1.toList then (gafferlaw02_DiskBehind.j0 k a1 l4 t724 false t715 t718 t719) else (if bt726.1.toList = bt728.1.toList then (gafferlaw02_DiskBehind.j0 k a1 l4 t724 (bt726.2 != bt728.2) t715 t718 t719) else (gafferlaw02_DiskBehind.j0 k a1 l4 t724 true t715 t718 t719))) else (gafferlaw02_DiskBehind.j0 k a1 l4 t724 true t715 t718 t719)) else (none)) else (gafferlaw02_DiskBehind.j0 k a1 l4 t724 true t715 t718 t719)) else (gafferlaw02_DiskBehind.j0 k a1 l4 t724 true t715 t718 t719))))) = some r := H
   have A11 := Aside0.mk A110
   clear A110
   replace H := Option.bind_eq_some_iff.mp H
   obtain ⟨⟨t726, t727⟩, A120, H⟩ := H
   replace H : ((disk_Read.f k t715 t718 t719 a3).bind fun bt728 => (if t714 = 0 then (if t725 = 0 then (if t713.size + a2.size ≤ 9223372036854775807 then (if t724.toList = (t713 ++ a2).toList then (if a3.toList = a1.toList then (gafferlaw02_DiskBehind.j0 k a1 l4 t724 false t715 t718 t719) else (if t726.toList = bt728.1.toList then (gafferlaw02_DiskBehind.j0 k a1 l4 t724 (t727 != bt728.2) t715 t718 t719) else (gafferlaw02_DiskBehind.j0 k a1 l4 t724 true t715 t718 t719))) else (gafferlaw02_DiskBehind.j0 k a1 l4 t724 true t715 t718 t719)) else (none)) else (gafferlaw02_DiskBehind.j0 k a1 l4 t724 true t715 t718 t719)) else (if t714 = 6 then (if t725 = 0 then (if t713.size + a2.size ≤ 9223372036854775807 then (if t724.toList = (t713 ++ a2).toList then (if a3.toList = a1.toList then (gafferlaw02_DiskBehind.j0 k a1 l4 t724 false t715 t718 t719) else (if t726.toList = bt728.1.toList then (gafferlaw02_DiskBehind.j0 k a1 l4 t724 (t727 != bt728.2) t715 t718 t719) else (gafferlaw02_DiskBehind.j0 k a1 l4 t724 true t715 t718 t719))) else (gafferlaw02_DiskBehind.j0 k a1 l4 t724 true t715 t718 t719)) else (none)) else (gafferlaw02_DiskBehind.j0 k a1 l4 t724 true t715 t718 t719)) else (gafferlaw02_DiskBehind.j0 k a1 l4 t724 true t715 t718 t719)))) = some r := H
   have A12 := Aside0.mk A120
   clear A120
   replace H := Option.bind_eq_some_iff.mp H
   obtain ⟨⟨t728, t729⟩, A130, H⟩ := H
   replace H : (if t714 = 0 then (if t725 = 0 then (if t713.size + a2.size ≤ 9223372036854775807 then (if t724.toList = (t713 ++ a2).toList then (if a3.toList = a1.toList then (gafferlaw02_DiskBehind.j0 k a1 l4 t724 false t715 t718 t719) else (if t726.toList = t728.toList then (gafferlaw02_DiskBehind.j0 k a1 l4 t724 (t727 != t729) t715 t718 t719) else (gafferlaw02_DiskBehind.j0 k a1 l4 t724 true t715 t718 t719))) else (gafferlaw02_DiskBehind.j0 k a1 l4 t724 true t715 t718 t719)) else (none)) else (gafferlaw02_DiskBehind.j0 k a1 l4 t724 true t715 t718 t719)) else (if t714 = 6 then (if t725 = 0 then (if t713.size + a2.size ≤ 9223372036854775807 then (if t724.toList = (t713 ++ a2).toList then (if a3.toList = a1.toList then (gafferlaw02_DiskBehind.j0 k a1 l4 t724 false t715 t718 t719) else (if t726.toList = t728.toList then (gafferlaw02_DiskBehind.j0 k a1 l4 t724 (t727 != t729) t715 t718 t719) else (gafferlaw02_DiskBehind.j0 k a1 l4 t724 true t715 t718 t719))) else (gafferlaw02_DiskBehind.j0 k a1 l4 t724 true t715 t718 t719)) else (none)) else (gafferlaw02_DiskBehind.j0 k a1 l4 t724 true t715 t718 t719)) else (gafferlaw02_DiskBehind.j0 k a1 l4 t724 true t715 t718 t719))) = some r := H
   have A13 := Aside0.mk A130
   clear A130
   have HC14 := Aside0.mk H
   clear H
   go_enter Try.func5, Try.ntmps5
   go_upto_region 10 with (first | ((with_reducible refine gate_dst (N := 5) rfl ?_); refine box_event ?hg (N := 5) ?hd (cs := #[.slice A0_0 l0_0.length c0_0, .bool a0_1, .int .i64 a0_2]) (t := 24) ?hr ?_; (case hd => rfl); (case hg => rfl); (case hr => first | (go_simp; done) | (go_simp; rfl)); intro gb711 hg w15 hbox hb; have BK711 := Aside0.mk (hbox); have GW711 := Aside0.mk (bs_0 hg HB); have GE711 := Aside0.mk (bs_0 hg HB); replace HB := Aside0.mk (below_step (bl_ HB) hb); clear hb hbox hg) | ((with_reducible refine gate_callee (f := 14) rfl ?_); refine goesL_ (some 25) rfl rfl Try.func14 (by kernel_rfl) rfl #[] rfl (ar_) ?_; (with_reducible refine (gafferlaw02_lives.calls k  true _ A6.out).mono ?_); rintro e w16 ⟨rfl, hb⟩; refine ⟨_, rfl, ?_⟩; replace BK711 := Aside0.mk (bb_ BK711 hb); replace HB := Aside0.mk (below_step (bl_1 HB GE711) hb); (try clear hb); (try clear hb2); (try clear hk); (try clear hi); obtain ⟨hcz17_0, hcz17_1, hcz17_2, hfz17_0, hfz17_1, hfz17_2⟩ := c3_ BK711) | ((with_reducible refine gate_callee (f := 17) rfl ?_); refine goesL_ (some 30) rfl rfl Try.func17 (by kernel_rfl) rfl #[.agg #[.slice A0_0 l0_0.length c0_0, .bool a0_1, .int .i64 a0_2], .string a1] rfl (ar_) ?_; (with_reducible refine (disk_Read.calls k _ _ l0_0 a0_1 a0_2 a1 t713 t714 _ ?side1 ?side2 A8.out).mono ?_); (case side1 => repeat (first | exact (Kd.C_below HR0_0.out HB.out) | (with_reducible refine Kd.C_alloc ?_ _) | (with_reducible refine Kd.C_drewN ?_ _) | (with_reducible refine Kd.C_drew ?_))); (case side2 => exact HC0_0.out); rintro e w18 ⟨rfl, hb⟩; refine ⟨_, rfl, ?_⟩; replace BK711 := Aside0.mk (bb_ BK711 hb); replace HB := Aside0.mk (below_step (bl_1 HB GE711) hb); (try clear hb); (try clear hb2); (try clear hk); (try clear hi); obtain ⟨hcz19_0, hcz19_1, hcz19_2, hfz19_0, hfz19_1, hfz19_2⟩ := c3_ BK711) | ((with_reducible refine gate_callee (f := 18) rfl ?_); refine goesL_ (some 37) rfl rfl Try.func18 (by kernel_rfl) rfl #[.agg #[.slice A0_0 l0_0.length c0_0, .bool a0_1, .int .i64 a0_2], .string a1, .string a2] rfl (ar_) ?_; (with_reducible refine (disk_Add.calls k _ _ l0_0 a0_1 a0_2 a1 a2 t715 t718 t719 t720 _ ?side1 ?side2 A9.out).mono ?_); (case side1 => repeat (first | exact (Kd.C_below HR0_0.out HB.out) | (with_reducible refine Kd.C_alloc ?_ _) | (with_reducible refine Kd.C_drewN ?_ _) | (with_reducible refine Kd.C_drew ?_))); (case side2 => exact HC0_0.out); rintro e w20 ⟨v716, rfl, ho0, hb⟩; refine ⟨_, rfl, ?_⟩; have HO717 := Aside0.mk (Kd.R_lower ho0 (below_size (bl_1 HB GE711))); replace BK711 := Aside0.mk (bb_ BK711 hb); replace HB := Aside0.mk (below_step (bl_1 HB GE711) hb); (try clear hb); (try clear hb2); (try clear hk); (try clear hi); (try clear ho0)) | ((with_reducible refine gate_dst (N := 13) rfl ?_); refine box_event ?hg (N := 13) ?hd (cs := #[.slice none 0 0, .bool false, .int .i64 0]) (t := 24) ?hr ?_; (case hd => rfl); (case hg => rfl); (case hr => first | (go_simp; done) | (go_simp; rfl)); intro gb721 hg w21 hbox hb; replace HO717 := Aside0.mk (Kd.R_below (by (with_reducible repeat (first | apply Kd.R_alloc | apply Kd.R_drewN | apply Kd.R_drew)); exact HO717.out) hb); have BK721 := Aside0.mk (hbox); have GW721 := Aside0.mk (bs_1 hg HB GE711); have GE721 := Aside0.mk (bs_1 hg HB GE711); replace HB := Aside0.mk (below_step (bl_1 HB GE711) hb); have NB711_721 := Aside0.mk (nb_ hg BK711); have NB721_711 := Aside0.mk (nc_ hg BK711); replace BK711 := Aside0.mk (bb_ BK711 hb); clear hb hbox hg; obtain ⟨Ao22, co22, eo22⟩ := Kd.R_slice HO717.out; subst eo22; have hnb23 := NB721_711.out; have hnc23 := NB711_721.out; obtain ⟨hcz24_0, hcz24_1, hcz24_2, hfz24_0, hfz24_1, hfz24_2⟩ := c3_ BK721) | ((with_reducible refine gate_callee (f := 17) rfl ?_); refine goesL_ (some 57) rfl rfl Try.func17 (by kernel_rfl) rfl #[.agg #[.slice Ao22 t715.length co22, .bool t718, .int .i64 t719], .string a1] rfl (ar_) ?_; (with_reducible refine (disk_Read.calls k _ _ t715 t718 t719 a1 t724 t725 _ ?side1 ?side2 A11.out).mono ?_); (case side1 => refine (Kd.R_reads' (e := 35) (base := w.heap.size) (ok := fun k_ => True) (n := t715.length) (c := co22) ?_).2.2; exact (by (with_reducible repeat (first | apply Kd.R_alloc | apply Kd.R_drewN | apply Kd.R_drew)); exact (Kd.R_mono (Kd.R_far (p := ⟨gb721, 2, none⟩) (Kd.R_far (p := ⟨gb721, 1, none⟩) (Kd.R_far (p := ⟨gb721, 0, none⟩) (Kd.R_types HO717.out BK721.out (by decide)) (fun _ hk => hk.2) (.slice Ao22 t715.length co22)) (fun _ hk => hk.2) (.bool t718)) (fun _ hk => hk.2) (.int .i64 t719)) (fun _ h_ => h_.1)))); (case side2 => exact (Kd.R_reads' HO717.out).2.1); rintro e w25 ⟨rfl, hb⟩; refine ⟨_, rfl, ?_⟩; replace HO717 := Aside0.mk (Kd.R_below (by (with_reducible repeat (first | apply Kd.R_alloc | apply Kd.R_drewN | apply Kd.R_drew)); exact (Kd.R_mono (Kd.R_far (p := ⟨gb721, 2, none⟩) (Kd.R_far (p := ⟨gb721, 1, none⟩) (Kd.R_far (p := ⟨gb721, 0, none⟩) (Kd.R_types HO717.out BK721.out (by decide)) (fun _ hk => hk.2) (.slice Ao22 t715.length co22)) (fun _ hk => hk.2) (.bool t718)) (fun _ hk => hk.2) (.int .i64 t719)) (fun _ h_ => h_.1))) hb); replace BK711 := Aside0.mk (blk_below (g := gb711) (o := .cells #[.slice A0_0 l0_0.length c0_0, .bool a0_1, .int .i64 a0_2] 24 (0, 0)) (bp_1 BK711 NB711_721) hb); replace BK721 := Aside0.mk (blk_below (g := gb721) (o := .cells #[.slice Ao22 t715.length co22, .bool t718, .int .i64 t719] 24 (0, 0)) (bp_0 BK721) hb); replace HB := Aside0.mk (below_step (bl_2 HB GE711 GE721) hb); (try clear hb); (try clear hb2); (try clear hk); (try clear hi); obtain ⟨hcz26_0, hcz26_1, hcz26_2, hfz26_0, hfz26_1, hfz26_2⟩ := c3_ BK711) | ((with_reducible refine gate_callee (f := 17) rfl ?_); refine goesL_ (some 63) rfl rfl Try.func17 (by kernel_rfl) rfl #[.agg #[.slice A0_0 l0_0.length c0_0, .bool a0_1, .int .i64 a0_2], .string a3] rfl (ar_) ?_; (with_reducible refine (disk_Read.calls k _ _ l0_0 a0_1 a0_2 a3 t726 t727 _ ?side1 ?side2 A12.out).mono ?_); (case side1 => repeat (first | exact (Kd.C_below HR0_0.out HB.out) | (with_reducible refine Kd.C_alloc ?_ _) | (with_reducible refine Kd.C_drewN ?_ _) | (with_reducible refine Kd.C_drew ?_))); (case side2 => exact HC0_0.out); rintro e w27 ⟨rfl, hb⟩; refine ⟨_, rfl, ?_⟩; replace HO717 := Aside0.mk (Kd.R_below (by (with_reducible repeat (first | apply Kd.R_alloc | apply Kd.R_drewN | apply Kd.R_drew)); exact HO717.out) hb); replace BK711 := Aside0.mk (bb_ BK711 hb); replace BK721 := Aside0.mk (bb_ BK721 hb); replace HB := Aside0.mk (below_step (bl_2 HB GE711 GE721) hb); (try clear hb); (try clear hb2); (try clear hk); (try clear hi); obtain ⟨hcz28_0, hcz28_1, hcz28_2, hfz28_0, hfz28_1, hfz28_2⟩ := c3_ BK721) | ((with_reducible refine gate_callee (f := 17) rfl ?_); refine goesL_ (some 69) rfl rfl Try.func17 (by kernel_rfl) rfl #[.agg #[.slice Ao22 t715.length co22, .bool t718, .int .i64 t719], .string a3] rfl (ar_) ?_; (with_reducible refine (disk_Read.calls k _ _ t715 t718 t719 a3 t728 t729 _ ?side1 ?side2 A13.out).mono ?_); (case side1 => repeat (first | exact (Kd.R_reads' HO717.out).2.2 | (with_reducible refine Kd.C_alloc ?_ _) | (with_reducible refine Kd.C_drewN ?_ _) | (with_reducible refine Kd.C_drew ?_))); (case side2 => exact (Kd.R_reads' HO717.out).2.1); rintro e w29 ⟨rfl, hb⟩; refine ⟨_, rfl, ?_⟩; replace HO717 := Aside0.mk (Kd.R_below (by (with_reducible repeat (first | apply Kd.R_alloc | apply Kd.R_drewN | apply Kd.R_drew)); exact HO717.out) hb); replace BK711 := Aside0.mk (bb_ BK711 hb); replace BK721 := Aside0.mk (bb_ BK721 hb); replace HB := Aside0.mk (below_step (bl_2 HB GE711 GE721) hb); (try clear hb); (try clear hb2); (try clear hk); (try clear hi)))
   (try simp only [Act.put, List.setIfInBounds_toArray, List.set_cons_zero, List.set_cons_succ])
   go_cut [103] (fun v103 wc => ∃ (kq : Nat) (x103_13 : Bool), v103 = .bool x103_13 ∧ Aside0 (gafferlaw02_DiskBehind.j0 kq a1 l4 t724 x103_13 t715 t718 t719 = some r) ∧ Aside0 (kq ≤ k) ∧ Aside0 (Kd.R k35 35 wc w.heap.size (fun _ => True) (.slice Ao22 t715.length co22) t715) ∧ Aside0 (wc.heap[gb711]? = some (.cells #[(.slice A0_0 l0_0.length c0_0), .bool a0_1, .int .i64 a0_2] 24 (0, 0))) ∧ Aside0 (wc.heap[gb721]? = some (.cells #[(.slice Ao22 t715.length co22), .bool t718, .int .i64 t719] 24 (0, 0))) ∧ Aside0 (Below w.heap.size w wc))
   case first =>
    have H := HC14.out
    clear HC14
    by_cases c30 : t714 = 0
    ·rw [if_pos c30] at H
     have c30b0 : (t714 == 0) = true := beq_iff_eq.mpr c30
     have c30b1 : (t714 != 0) = false := bne_eq_false_iff_eq.mpr c30
     clear c30
     (first | rw [c30b0] | (simp only [i64_w, i32_w]; rw [c30b0]) | skip)
     by_cases c31 : t725 = 0
     ·rw [if_pos c31] at H
      have c31b0 : (t725 == 0) = true := beq_iff_eq.mpr c31
      have c31b1 : (t725 != 0) = false := bne_eq_false_iff_eq.mpr c31
      clear c31
      by_cases c32 : t713.size + a2.size ≤ 9223372036854775807
      ·rw [if_pos c32] at H
       have c32b0 := eq_true c32
       have c32b1 : decide (t713.size + a2.size ≤ 9223372036854775807) = true := decide_eq_true c32
       try have c32b2 : (9223372036854775807 < t713.size + a2.size) = False := eq_false (Nat.not_lt.2 c32)
       clear c32
       by_cases c33 : t724.toList = (t713 ++ a2).toList
       ·rw [if_pos c33] at H
        have c33b0 : (t724.toList == (t713 ++ a2).toList) = true := beq_iff_eq.mpr c33
        have c33b1 : (t724.toList != (t713 ++ a2).toList) = false := bne_eq_false_iff_eq.mpr c33
        clear c33
        by_cases c34 : a3.toList = a1.toList
        ·rw [if_pos c34] at H
         have c34b0 : (a3.toList == a1.toList) = true := beq_iff_eq.mpr c34
         have c34b1 : (a3.toList != a1.toList) = false := bne_eq_false_iff_eq.mpr c34
         clear c34
         have H' := Aside0.mk H
         clear H
         go_wp2
         go_meet
         case rel => exact ⟨_, (false), (by first | rfl | (simp; done) | (simp [*]; done)), H', ⟨by first | omega | exact Nat.le_refl _⟩, ⟨by (with_reducible repeat (first | apply Kd.R_alloc | apply Kd.R_drewN | apply Kd.R_drew)); exact HO717.out⟩, ⟨bk_ BK711⟩, ⟨bk_ BK721⟩, ⟨bl_2 HB GE711 GE721⟩⟩
        ·rw [if_neg c34] at H
         have c34b0 : (a3.toList == a1.toList) = false := beq_eq_false_iff_ne.mpr c34
         have c34b1 : (a3.toList != a1.toList) = true := bne_iff_ne.mpr c34
         by_cases c35 : t726.toList = t728.toList
         ·rw [if_pos c35] at H
          have c35b0 : (t726.toList == t728.toList) = true := beq_iff_eq.mpr c35
          have c35b1 : (t726.toList != t728.toList) = false := bne_eq_false_iff_eq.mpr c35
          clear c35
          have H' := Aside0.mk H
          clear H
          go_wp2
          go_meet
          case rel => exact ⟨_, ((t727 != t729)), (by first | rfl | (simp; done) | (simp [*]; done)), H', ⟨by first | omega | exact Nat.le_refl _⟩, ⟨by (with_reducible repeat (first | apply Kd.R_alloc | apply Kd.R_drewN | apply Kd.R_drew)); exact HO717.out⟩, ⟨bk_ BK711⟩, ⟨bk_ BK721⟩, ⟨bl_2 HB GE711 GE721⟩⟩
         ·rw [if_neg c35] at H
          have c35b0 : (t726.toList == t728.toList) = false := beq_eq_false_iff_ne.mpr c35
          have c35b1 : (t726.toList != t728.toList) = true := bne_iff_ne.mpr c35
          have H' := Aside0.mk H
          clear H
          go_wp2
          go_meet
          case rel => exact ⟨_, (true), (by first | rfl | (simp; done) | (simp [*]; done)), H', ⟨by first | omega | exact Nat.le_refl _⟩, ⟨by (with_reducible repeat (first | apply Kd.R_alloc | apply Kd.R_drewN | apply Kd.R_drew)); exact HO717.out⟩, ⟨bk_ BK711⟩, ⟨bk_ BK721⟩, ⟨bl_2 HB GE711 GE721⟩⟩
       ·rw [if_neg c33] at H
        have c33b0 : (t724.toList == (t713 ++ a2).toList) = false := beq_eq_false_iff_ne.mpr c33
        have c33b1 : (t724.toList != (t713 ++ a2).toList) = true := bne_iff_ne.mpr c33
        have H' := Aside0.mk H
        clear H
        go_wp2
        go_meet
        case rel => exact ⟨_, (true), (by first | rfl | (simp; done) | (simp [*]; done)), H', ⟨by first | omega | exact Nat.le_refl _⟩, ⟨by (with_reducible repeat (first | apply Kd.R_alloc | apply Kd.R_drewN | apply Kd.R_drew)); exact HO717.out⟩, ⟨bk_ BK711⟩, ⟨bk_ BK721⟩, ⟨bl_2 HB GE711 GE721⟩⟩
      ·rw [if_neg c32] at H
       exact absurd H (by simp)
     ·rw [if_neg c31] at H
      have c31b0 : (t725 == 0) = false := beq_eq_false_iff_ne.mpr c31
      have c31b1 : (t725 != 0) = true := bne_iff_ne.mpr c31
      have H' := Aside0.mk H
      clear H
      go_wp2
      go_meet
      case rel => exact ⟨_, (true), (by first | rfl | (simp; done) | (simp [*]; done)), H', ⟨by first | omega | exact Nat.le_refl _⟩, ⟨by (with_reducible repeat (first | apply Kd.R_alloc | apply Kd.R_drewN | apply Kd.R_drew)); exact HO717.out⟩, ⟨bk_ BK711⟩, ⟨bk_ BK721⟩, ⟨bl_2 HB GE711 GE721⟩⟩
    ·rw [if_neg c30] at H
     have c30b0 : (t714 == 0) = false := beq_eq_false_iff_ne.mpr c30
     have c30b1 : (t714 != 0) = true := bne_iff_ne.mpr c30
     (first | rw [c30b0] | (simp only [i64_w, i32_w]; rw [c30b0]) | skip)
     by_cases c36 : t714 = 6
     ·rw [if_pos c36] at H
      have c36b0 : (t714 == 6) = true := beq_iff_eq.mpr c36
      have c36b1 : (t714 != 6) = false := bne_eq_false_iff_eq.mpr c36
      clear c36
      by_cases c37 : t725 = 0
      ·rw [if_pos c37] at H
       have c37b0 : (t725 == 0) = true := beq_iff_eq.mpr c37
       have c37b1 : (t725 != 0) = false := bne_eq_false_iff_eq.mpr c37
       clear c37
       by_cases c38 : t713.size + a2.size ≤ 9223372036854775807
       ·rw [if_pos c38] at H
        have c38b0 := eq_true c38
        have c38b1 : decide (t713.size + a2.size ≤ 9223372036854775807) = true := decide_eq_true c38
        try have c38b2 : (9223372036854775807 < t713.size + a2.size) = False := eq_false (Nat.not_lt.2 c38)
        clear c38
        by_cases c39 : t724.toList = (t713 ++ a2).toList
        ·rw [if_pos c39] at H
         have c39b0 : (t724.toList == (t713 ++ a2).toList) = true := beq_iff_eq.mpr c39
         have c39b1 : (t724.toList != (t713 ++ a2).toList) = false := bne_eq_false_iff_eq.mpr c39
         clear c39
         by_cases c40 : a3.toList = a1.toList
         ·rw [if_pos c40] at H
          have c40b0 : (a3.toList == a1.toList) = true := beq_iff_eq.mpr c40
          have c40b1 : (a3.toList != a1.toList) = false := bne_eq_false_iff_eq.mpr c40
          clear c40
          have H' := Aside0.mk H
          clear H
          go_wp2
          go_meet
          case rel => exact ⟨_, (false), (by first | rfl | (simp; done) | (simp [*]; done)), H', ⟨by first | omega | exact Nat.le_refl _⟩, ⟨by (with_reducible repeat (first | apply Kd.R_alloc | apply Kd.R_drewN | apply Kd.R_drew)); exact HO717.out⟩, ⟨bk_ BK711⟩, ⟨bk_ BK721⟩, ⟨bl_2 HB GE711 GE721⟩⟩
         ·rw [if_neg c40] at H
          have c40b0 : (a3.toList == a1.toList) = false := beq_eq_false_iff_ne.mpr c40
          have c40b1 : (a3.toList != a1.toList) = true := bne_iff_ne.mpr c40
          by_cases c41 : t726.toList = t728.toList
          ·rw [if_pos c41] at H
           have c41b0 : (t726.toList == t728.toList) = true := beq_iff_eq.mpr c41
           have c41b1 : (t726.toList != t728.toList) = false := bne_eq_false_iff_eq.mpr c41
           clear c41
           have H' := Aside0.mk H
           clear H
           go_wp2
           go_meet
           case rel => exact ⟨_, ((t727 != t729)), (by first | rfl | (simp; done) | (simp [*]; done)), H', ⟨by first | omega | exact Nat.le_refl _⟩, ⟨by (with_reducible repeat (first | apply Kd.R_alloc | apply Kd.R_drewN | apply Kd.R_drew)); exact HO717.out⟩, ⟨bk_ BK711⟩, ⟨bk_ BK721⟩, ⟨bl_2 HB GE711 GE721⟩⟩
          ·rw [if_neg c41] at H
           have c41b0 : (t726.toList == t728.toList) = false := beq_eq_false_iff_ne.mpr c41
           have c41b1 : (t726.toList != t728.toList) = true := bne_iff_ne.mpr c41
           have H' := Aside0.mk H
           clear H
           go_wp2
           go_meet
           case rel => exact ⟨_, (true), (by first | rfl | (simp; done) | (simp [*]; done)), H', ⟨by first | omega | exact Nat.le_refl _⟩, ⟨by (with_reducible repeat (first | apply Kd.R_alloc | apply Kd.R_drewN | apply Kd.R_drew)); exact HO717.out⟩, ⟨bk_ BK711⟩, ⟨bk_ BK721⟩, ⟨bl_2 HB GE711 GE721⟩⟩
        ·rw [if_neg c39] at H
         have c39b0 : (t724.toList == (t713 ++ a2).toList) = false := beq_eq_false_iff_ne.mpr c39
         have c39b1 : (t724.toList != (t713 ++ a2).toList) = true := bne_iff_ne.mpr c39
         have H' := Aside0.mk H
         clear H
         go_wp2
         go_meet
         case rel => exact ⟨_, (true), (by first | rfl | (simp; done) | (simp [*]; done)), H', ⟨by first | omega | exact Nat.le_refl _⟩, ⟨by (with_reducible repeat (first | apply Kd.R_alloc | apply Kd.R_drewN | apply Kd.R_drew)); exact HO717.out⟩, ⟨bk_ BK711⟩, ⟨bk_ BK721⟩, ⟨bl_2 HB GE711 GE721⟩⟩
       ·rw [if_neg c38] at H
        exact absurd H (by simp)
      ·rw [if_neg c37] at H
       have c37b0 : (t725 == 0) = false := beq_eq_false_iff_ne.mpr c37
       have c37b1 : (t725 != 0) = true := bne_iff_ne.mpr c37
       have H' := Aside0.mk H
       clear H
       go_wp2
       go_meet
       case rel => exact ⟨_, (true), (by first | rfl | (simp; done) | (simp [*]; done)), H', ⟨by first | omega | exact Nat.le_refl _⟩, ⟨by (with_reducible repeat (first | apply Kd.R_alloc | apply Kd.R_drewN | apply Kd.R_drew)); exact HO717.out⟩, ⟨bk_ BK711⟩, ⟨bk_ BK721⟩, ⟨bl_2 HB GE711 GE721⟩⟩
     ·rw [if_neg c36] at H
      have c36b0 : (t714 == 6) = false := beq_eq_false_iff_ne.mpr c36
      have c36b1 : (t714 != 6) = true := bne_iff_ne.mpr c36
      have H' := Aside0.mk H
      clear H
      go_wp2
      go_meet
      case rel => exact ⟨_, (true), (by first | rfl | (simp; done) | (simp [*]; done)), H', ⟨by first | omega | exact Nat.le_refl _⟩, ⟨by (with_reducible repeat (first | apply Kd.R_alloc | apply Kd.R_drewN | apply Kd.R_drew)); exact HO717.out⟩, ⟨bk_ BK711⟩, ⟨bk_ BK721⟩, ⟨bl_2 HB GE711 GE721⟩⟩
   case rest =>
    clear HC14
    try clear c1
    try clear c2
    try clear p2
    try clear c3
    try clear c4
    try clear c5
    try clear c7
    try clear c10
    try clear c10b0
    try clear c10b1
    try clear c14
    try clear c17
    try clear c18
    try clear c23
    try clear c30
    try clear c30b0
    try clear c30b1
    try clear c31
    try clear c31b0
    try clear c31b1
    try clear c32
    try clear c32b0
    try clear c32b1
    try clear c32b2
    try clear c33
    try clear c33b0
    try clear c33b1
    try clear c34
    try clear c34b0
    try clear c34b1
    try clear c35
    try clear c35b0
    try clear c35b1
    try clear c36
    try clear c36b0
    try clear c36b1
    try clear c37
    try clear c37b0
    try clear c37b1
    try clear c38
    try clear c38b0
    try clear c38b1
    try clear c38b2
    try clear c39
    try clear c39b0
    try clear c39b1
    try clear c40
    try clear c40b0
    try clear c40b1
    try clear c41
    try clear c41b0
    try clear c41b1
    try clear hcz17_0
    try clear hcz17_1
    try clear hcz17_2
    try clear hcz19_0
    try clear hcz19_1
    try clear hcz19_2
    try clear hcz24_0
    try clear hcz24_1
    try clear hcz24_2
    try clear hcz26_0
    try clear hcz26_1
    try clear hcz26_2
    try clear hcz28_0
    try clear hcz28_1
    try clear hcz28_2
    try clear hfz17_0
    try clear hfz17_1
    try clear hfz17_2
    try clear hfz19_0
    try clear hfz19_1
    try clear hfz19_2
    try clear hfz24_0
    try clear hfz24_1
    try clear hfz24_2
    try clear hfz26_0
    try clear hfz26_1
    try clear hfz26_2
    try clear hfz28_0
    try clear hfz28_1
    try clear hfz28_2
    obtain ⟨kq, x103_13, rfl, HA, HJ13, HO_722000, BK711, BK721, HB⟩ := hcut
    cases kq with
    | zero => exact absurd HA.out (by simp [gafferlaw02_DiskBehind.j0])
    | succ kj13 =>
     have H := HA.out
     clear HA
     simp only [gafferlaw02_DiskBehind.j0] at H
     by_cases c42 : x103_13 = true
     ·subst c42
      have H1 : (some false) = some r := by rw [if_pos rfl] at H; exact H
      clear H
      have H := H1
      clear H1
      exact absurd (H.trans (congrArg some hr)) (by simp)
     ·replace c42 := Bool.eq_false_iff.mpr c42
      subst c42
      have H1 : ((disk_Sync.f kj13 t715 t718 t719 a1).bind fun bt730 => (if bt730.2.2.2 = 0 then ((disk_Crash.f kj13 bt730.1 bt730.2.1 bt730.2.2.1 l4).bind fun bt737 => ((disk_Read.f kj13 bt737.1 bt737.2.1 bt737.2.2.1 a1).bind fun bt743 => (if bt743.2 = 0 then (some (bt743.1.toList == t724.toList)) else (some false)))) else (if bt730.2.2.2 = 8 then (some bt730.2.1) else (some false)))) = some r := by rw [if_neg (show ¬ (false = true) by decide)] at H; exact H
      clear H
      have H := H1
      clear H1
      replace H := Option.bind_eq_some_iff.mp H
      obtain ⟨⟨t730, t733, t734, t735⟩, A430, H⟩ := H
      replace H : (if t735 = 0 then ((disk_Crash.f kj13 t730 t733 t734 l4).bind fun bt737 => ((disk_Read.f kj13 bt737.1 bt737.2.1 bt737.2.2.1 a1).bind fun bt743 => (if bt743.2 = 0 then (some (bt743.1.toList == t724.toList)) else (some false)))) else (if t735 = 8 then (some t733) else (some false))) = some r := H
      have A43 := Aside0.mk A430
      clear A430
      by_cases c44 : t735 = 0
      ·rw [if_pos c44] at H
       have c44b0 : (t735 == 0) = true := beq_iff_eq.mpr c44
       have c44b1 : (t735 != 0) = false := bne_eq_false_iff_eq.mpr c44
       clear c44
       replace H := Option.bind_eq_some_iff.mp H
       obtain ⟨⟨t737, t740, t741, t742⟩, A450, H⟩ := H
       replace H : ((disk_Read.f kj13 t737 t740 t741 a1).bind fun bt743 => (if bt743.2 = 0 then (some (bt743.1.toList == t724.toList)) else (some false))) = some r := H
       have A45 := Aside0.mk A450
       clear A450
       replace H := Option.bind_eq_some_iff.mp H
       obtain ⟨⟨t743, t744⟩, A460, H⟩ := H
       replace H : (if t744 = 0 then (some (t743.toList == t724.toList)) else (some false)) = some r := H
       have A46 := Aside0.mk A460
       clear A460
       by_cases c47 : t744 = 0
       ·rw [if_pos c47] at H
        have c47b0 : (t744 == 0) = true := beq_iff_eq.mpr c47
        have c47b1 : (t744 != 0) = false := bne_eq_false_iff_eq.mpr c47
        clear c47
        obtain rfl := Option.some.inj H
        have hnb48 := NB721_711.out
        have hnc48 := NB711_721.out
        obtain ⟨hcz49_0, hcz49_1, hcz49_2, hfz49_0, hfz49_1, hfz49_2⟩ := c3_ BK721
        go_wp2_with (first | ((with_reducible refine gate_callee (f := 19) rfl ?_); refine goesL_ (some 107) rfl rfl Try.func19 (by kernel_rfl) rfl #[.agg #[.slice Ao22 t715.length co22, .bool t718, .int .i64 t719], .string a1] rfl (ar_) ?_; (with_reducible refine (disk_Sync.calls kj13 _ _ t715 t718 t719 a1 t730 t733 t734 t735 _ ?side1 ?side2 A43.out).mono ?_); (case side1 => repeat (first | exact (Kd.R_reads' HO_722000.out).2.2 | (with_reducible refine Kd.C_alloc ?_ _) | (with_reducible refine Kd.C_drewN ?_ _) | (with_reducible refine Kd.C_drew ?_))); (case side2 => exact (Kd.R_reads' HO_722000.out).2.1); rintro e w50 ⟨v731, rfl, ho0, hb⟩; refine ⟨_, rfl, ?_⟩; have HO732 := Aside0.mk (Kd.R_lower (Kd.R_new' ho0 (Kd.R_lt (by (with_reducible repeat (first | apply Kd.R_alloc | apply Kd.R_drewN | apply Kd.R_drew)); exact HO_722000.out))) (below_size (bl_2 HB GE711 GE721))); replace HO_722000 := Aside0.mk (Kd.R_elder' (by (with_reducible repeat (first | apply Kd.R_alloc | apply Kd.R_drewN | apply Kd.R_drew)); exact HO_722000.out) (Kd.R_base ho0) hb); replace BK711 := Aside0.mk (bb_ BK711 hb); replace BK721 := Aside0.mk (bb_ BK721 hb); replace HB := Aside0.mk (below_step (bl_2 HB GE711 GE721) hb); (try clear hb); (try clear hb2); (try clear hk); (try clear hi); (try clear ho0)) | ((with_reducible refine gate_dst (N := 21) rfl ?_); refine box_event ?hg (N := 21) ?hd (cs := #[.slice none 0 0, .bool false, .int .i64 0]) (t := 24) ?hr ?_; (case hd => rfl); (case hg => rfl); (case hr => first | (go_simp; done) | (go_simp; rfl)); intro gb736 hg w51 hbox hb; replace HO_722000 := Aside0.mk (Kd.R_below (by (with_reducible repeat (first | apply Kd.R_alloc | apply Kd.R_drewN | apply Kd.R_drew)); exact HO_722000.out) hb); replace HO732 := Aside0.mk (Kd.R_below (by (with_reducible repeat (first | apply Kd.R_alloc | apply Kd.R_drewN | apply Kd.R_drew)); exact HO732.out) hb); have BK736 := Aside0.mk (hbox); have GW736 := Aside0.mk (bs_2 hg HB GE711 GE721); have GE736 := Aside0.mk (bs_2 hg HB GE711 GE721); replace HB := Aside0.mk (below_step (bl_2 HB GE711 GE721) hb); have NB711_736 := Aside0.mk (nb_ hg BK711); have NB736_711 := Aside0.mk (nc_ hg BK711); replace BK711 := Aside0.mk (bb_ BK711 hb); have NB721_736 := Aside0.mk (nb_ hg BK721); have NB736_721 := Aside0.mk (nc_ hg BK721); replace BK721 := Aside0.mk (bb_ BK721 hb); clear hb hbox hg; obtain ⟨Ao52, co52, eo52⟩ := Kd.R_slice HO732.out; subst eo52; have hnb53 := NB736_711.out; have hnc53 := NB711_736.out; have hnb54 := NB736_721.out; have hnc54 := NB721_736.out; obtain ⟨hcz55_0, hcz55_1, hcz55_2, hfz55_0, hfz55_1, hfz55_2⟩ := c3_ BK736) | ((with_reducible refine gate_callee (f := 12) rfl ?_); refine goesL_ (some 121) rfl rfl Try.func12 (by kernel_rfl) rfl #[.agg #[.slice Ao52 t730.length co52, .bool t733, .int .i64 t734], .slice A4 l4.length c4] rfl (ar_) ?_; (with_reducible refine (disk_Crash.calls kj13 _ _ t730 t733 t734 _ _ l4 t737 t740 t741 t742 _ ?side1 ?side2 ?side3 ?side4 A45.out).mono ?_); (case side1 => refine (Kd.R_reads' (e := 35) (base := w.heap.size) (ok := fun k_ => (True ∧ some k_ ≠ (.slice Ao22 t715.length co22 : Value).ownBlock)) (n := t730.length) (c := co52) ?_).2.2; exact (by (with_reducible repeat (first | apply Kd.R_alloc | apply Kd.R_drewN | apply Kd.R_drew)); exact (Kd.R_mono (Kd.R_far (p := ⟨gb736, 2, none⟩) (Kd.R_far (p := ⟨gb736, 1, none⟩) (Kd.R_far (p := ⟨gb736, 0, none⟩) (Kd.R_types HO732.out BK736.out (by decide)) (fun _ hk => hk.2) (.slice Ao52 t730.length co52)) (fun _ hk => hk.2) (.bool t733)) (fun _ hk => hk.2) (.int .i64 t734)) (fun _ h_ => h_.1)))); (case side2 => exact (Kd.R_reads' HO732.out).2.1); (case side3 => exact Kd.C_below HR4.out (bl_3 HB GE711 GE721 GE736)); (case side4 => exact HC4.out); rintro e w56 ⟨v738, rfl, ho0, hb⟩; refine ⟨_, rfl, ?_⟩; have HO739 := Aside0.mk (Kd.R_lower (Kd.R_new' (Kd.R_new' ho0 (Kd.R_lt (by (with_reducible repeat (first | apply Kd.R_alloc | apply Kd.R_drewN | apply Kd.R_drew)); exact (Kd.R_mono (Kd.R_far (p := ⟨gb736, 2, none⟩) (Kd.R_far (p := ⟨gb736, 1, none⟩) (Kd.R_far (p := ⟨gb736, 0, none⟩) (Kd.R_types HO_722000.out BK736.out (by decide)) (fun _ hk => hk.2) (.slice Ao52 t730.length co52)) (fun _ hk => hk.2) (.bool t733)) (fun _ hk => hk.2) (.int .i64 t734)) (fun _ h_ => h_.1))))) (Kd.R_lt (by (with_reducible repeat (first | apply Kd.R_alloc | apply Kd.R_drewN | apply Kd.R_drew)); exact (Kd.R_mono (Kd.R_far (p := ⟨gb736, 2, none⟩) (Kd.R_far (p := ⟨gb736, 1, none⟩) (Kd.R_far (p := ⟨gb736, 0, none⟩) (Kd.R_types HO732.out BK736.out (by decide)) (fun _ hk => hk.2) (.slice Ao52 t730.length co52)) (fun _ hk => hk.2) (.bool t733)) (fun _ hk => hk.2) (.int .i64 t734)) (fun _ h_ => h_.1))))) (below_size (bl_3 HB GE711 GE721 GE736))); replace HO_722000 := Aside0.mk (Kd.R_elder' (by (with_reducible repeat (first | apply Kd.R_alloc | apply Kd.R_drewN | apply Kd.R_drew)); exact (Kd.R_mono (Kd.R_far (p := ⟨gb736, 2, none⟩) (Kd.R_far (p := ⟨gb736, 1, none⟩) (Kd.R_far (p := ⟨gb736, 0, none⟩) (Kd.R_types HO_722000.out BK736.out (by decide)) (fun _ hk => hk.2) (.slice Ao52 t730.length co52)) (fun _ hk => hk.2) (.bool t733)) (fun _ hk => hk.2) (.int .i64 t734)) (fun _ h_ => h_.1))) (Kd.R_base ho0) hb); replace HO732 := Aside0.mk (Kd.R_elder' (by (with_reducible repeat (first | apply Kd.R_alloc | apply Kd.R_drewN | apply Kd.R_drew)); exact (Kd.R_mono (Kd.R_far (p := ⟨gb736, 2, none⟩) (Kd.R_far (p := ⟨gb736, 1, none⟩) (Kd.R_far (p := ⟨gb736, 0, none⟩) (Kd.R_types HO732.out BK736.out (by decide)) (fun _ hk => hk.2) (.slice Ao52 t730.length co52)) (fun _ hk => hk.2) (.bool t733)) (fun _ hk => hk.2) (.int .i64 t734)) (fun _ h_ => h_.1))) (Kd.R_base ho0) hb); replace BK711 := Aside0.mk (blk_below (g := gb711) (o := .cells #[.slice A0_0 l0_0.length c0_0, .bool a0_1, .int .i64 a0_2] 24 (0, 0)) (bp_1 BK711 NB711_736) hb); replace BK721 := Aside0.mk (blk_below (g := gb721) (o := .cells #[.slice Ao22 t715.length co22, .bool t718, .int .i64 t719] 24 (0, 0)) (bp_1 BK721 NB721_736) hb); replace BK736 := Aside0.mk (blk_below (g := gb736) (o := .cells #[.slice Ao52 t730.length co52, .bool t733, .int .i64 t734] 24 (0, 0)) (bp_0 BK736) hb); replace HB := Aside0.mk (below_step (bl_3 HB GE711 GE721 GE736) hb); (try clear hb); (try clear hb2); (try clear hk); (try clear hi); (try clear ho0); obtain ⟨Ao57, co57, eo57⟩ := Kd.R_slice HO739.out; subst eo57; obtain ⟨hcz58_0, hcz58_1, hcz58_2, hfz58_0, hfz58_1, hfz58_2⟩ := c3_ BK736) | ((with_reducible refine gate_callee (f := 17) rfl ?_); refine goesL_ (some 127) rfl rfl Try.func17 (by kernel_rfl) rfl #[.agg #[.slice Ao57 t737.length co57, .bool t740, .int .i64 t741], .string a1] rfl (ar_) ?_; (with_reducible refine (disk_Read.calls kj13 _ _ t737 t740 t741 a1 t743 t744 _ ?side1 ?side2 A46.out).mono ?_); (case side1 => refine (Kd.R_reads' (e := 35) (base := w.heap.size) (ok := fun k_ => ((True ∧ some k_ ≠ (.slice Ao22 t715.length co22 : Value).ownBlock) ∧ some k_ ≠ (.slice Ao52 t730.length co52 : Value).ownBlock)) (n := t737.length) (c := co57) ?_).2.2; exact (by (with_reducible repeat (first | apply Kd.R_alloc | apply Kd.R_drewN | apply Kd.R_drew)); exact (Kd.R_mono (Kd.R_far (p := ⟨gb736, 2, none⟩) (Kd.R_far (p := ⟨gb736, 1, none⟩) (Kd.R_far (p := ⟨gb736, 0, none⟩) (Kd.R_types HO739.out BK736.out (by decide)) (fun _ hk => hk.2) (.slice Ao57 t737.length co57)) (fun _ hk => hk.2) (.bool t740)) (fun _ hk => hk.2) (.int .i64 t741)) (fun _ h_ => h_.1)))); (case side2 => exact (Kd.R_reads' HO739.out).2.1); rintro e w59 ⟨rfl, hb⟩; refine ⟨_, rfl, ?_⟩; replace HO_722000 := Aside0.mk (Kd.R_below (by (with_reducible repeat (first | apply Kd.R_alloc | apply Kd.R_drewN | apply Kd.R_drew)); exact (Kd.R_mono (Kd.R_far (p := ⟨gb736, 2, none⟩) (Kd.R_far (p := ⟨gb736, 1, none⟩) (Kd.R_far (p := ⟨gb736, 0, none⟩) (Kd.R_types HO_722000.out BK736.out (by decide)) (fun _ hk => hk.2) (.slice Ao57 t737.length co57)) (fun _ hk => hk.2) (.bool t740)) (fun _ hk => hk.2) (.int .i64 t741)) (fun _ h_ => h_.1))) hb); replace HO732 := Aside0.mk (Kd.R_below (by (with_reducible repeat (first | apply Kd.R_alloc | apply Kd.R_drewN | apply Kd.R_drew)); exact (Kd.R_mono (Kd.R_far (p := ⟨gb736, 2, none⟩) (Kd.R_far (p := ⟨gb736, 1, none⟩) (Kd.R_far (p := ⟨gb736, 0, none⟩) (Kd.R_types HO732.out BK736.out (by decide)) (fun _ hk => hk.2) (.slice Ao57 t737.length co57)) (fun _ hk => hk.2) (.bool t740)) (fun _ hk => hk.2) (.int .i64 t741)) (fun _ h_ => h_.1))) hb); replace HO739 := Aside0.mk (Kd.R_below (by (with_reducible repeat (first | apply Kd.R_alloc | apply Kd.R_drewN | apply Kd.R_drew)); exact (Kd.R_mono (Kd.R_far (p := ⟨gb736, 2, none⟩) (Kd.R_far (p := ⟨gb736, 1, none⟩) (Kd.R_far (p := ⟨gb736, 0, none⟩) (Kd.R_types HO739.out BK736.out (by decide)) (fun _ hk => hk.2) (.slice Ao57 t737.length co57)) (fun _ hk => hk.2) (.bool t740)) (fun _ hk => hk.2) (.int .i64 t741)) (fun _ h_ => h_.1))) hb); replace BK711 := Aside0.mk (blk_below (g := gb711) (o := .cells #[.slice A0_0 l0_0.length c0_0, .bool a0_1, .int .i64 a0_2] 24 (0, 0)) (bp_1 BK711 NB711_736) hb); replace BK721 := Aside0.mk (blk_below (g := gb721) (o := .cells #[.slice Ao22 t715.length co22, .bool t718, .int .i64 t719] 24 (0, 0)) (bp_1 BK721 NB721_736) hb); replace BK736 := Aside0.mk (blk_below (g := gb736) (o := .cells #[.slice Ao57 t737.length co57, .bool t740, .int .i64 t741] 24 (0, 0)) (bp_0 BK736) hb); replace HB := Aside0.mk (below_step (bl_3 HB GE711 GE721 GE736) hb); (try clear hb); (try clear hb2); (try clear hk); (try clear hi)))
        go_ret
        exact ⟨by first | rfl | (simp; done) | (simp [*]; done), bl_3 HB GE711 GE721 GE736⟩
       ·rw [if_neg c47] at H
        have c47b0 : (t744 == 0) = false := beq_eq_false_iff_ne.mpr c47
        have c47b1 : (t744 != 0) = true := bne_iff_ne.mpr c47
        exact absurd (H.trans (congrArg some hr)) (by simp)
      ·rw [if_neg c44] at H
       have c44b0 : (t735 == 0) = false := beq_eq_false_iff_ne.mpr c44
       have c44b1 : (t735 != 0) = true := bne_iff_ne.mpr c44
       by_cases c60 : t735 = 8
       ·rw [if_pos c60] at H
        have c60b0 : (t735 == 8) = true := beq_iff_eq.mpr c60
        have c60b1 : (t735 != 8) = false := bne_eq_false_iff_eq.mpr c60
        clear c60
        obtain rfl := Option.some.inj H
        have hnb61 := NB721_711.out
        have hnc61 := NB711_721.out
        obtain ⟨hcz62_0, hcz62_1, hcz62_2, hfz62_0, hfz62_1, hfz62_2⟩ := c3_ BK721
        go_wp2_with (first | ((with_reducible refine gate_callee (f := 19) rfl ?_); refine goesL_ (some 107) rfl rfl Try.func19 (by kernel_rfl) rfl #[.agg #[.slice Ao22 t715.length co22, .bool t718, .int .i64 t719], .string a1] rfl (ar_) ?_; (with_reducible refine (disk_Sync.calls kj13 _ _ t715 t718 t719 a1 t730 t733 t734 t735 _ ?side1 ?side2 A43.out).mono ?_); (case side1 => repeat (first | exact (Kd.R_reads' HO_722000.out).2.2 | (with_reducible refine Kd.C_alloc ?_ _) | (with_reducible refine Kd.C_drewN ?_ _) | (with_reducible refine Kd.C_drew ?_))); (case side2 => exact (Kd.R_reads' HO_722000.out).2.1); rintro e w63 ⟨v731, rfl, ho0, hb⟩; refine ⟨_, rfl, ?_⟩; have HO732 := Aside0.mk (Kd.R_lower (Kd.R_new' ho0 (Kd.R_lt (by (with_reducible repeat (first | apply Kd.R_alloc | apply Kd.R_drewN | apply Kd.R_drew)); exact HO_722000.out))) (below_size (bl_2 HB GE711 GE721))); replace HO_722000 := Aside0.mk (Kd.R_elder' (by (with_reducible repeat (first | apply Kd.R_alloc | apply Kd.R_drewN | apply Kd.R_drew)); exact HO_722000.out) (Kd.R_base ho0) hb); replace BK711 := Aside0.mk (bb_ BK711 hb); replace BK721 := Aside0.mk (bb_ BK721 hb); replace HB := Aside0.mk (below_step (bl_2 HB GE711 GE721) hb); (try clear hb); (try clear hb2); (try clear hk); (try clear hi); (try clear ho0)) | ((with_reducible refine gate_dst (N := 21) rfl ?_); refine box_event ?hg (N := 21) ?hd (cs := #[.slice none 0 0, .bool false, .int .i64 0]) (t := 24) ?hr ?_; (case hd => rfl); (case hg => rfl); (case hr => first | (go_simp; done) | (go_simp; rfl)); intro gb736 hg w64 hbox hb; replace HO_722000 := Aside0.mk (Kd.R_below (by (with_reducible repeat (first | apply Kd.R_alloc | apply Kd.R_drewN | apply Kd.R_drew)); exact HO_722000.out) hb); replace HO732 := Aside0.mk (Kd.R_below (by (with_reducible repeat (first | apply Kd.R_alloc | apply Kd.R_drewN | apply Kd.R_drew)); exact HO732.out) hb); have BK736 := Aside0.mk (hbox); have GW736 := Aside0.mk (bs_2 hg HB GE711 GE721); have GE736 := Aside0.mk (bs_2 hg HB GE711 GE721); replace HB := Aside0.mk (below_step (bl_2 HB GE711 GE721) hb); have NB711_736 := Aside0.mk (nb_ hg BK711); have NB736_711 := Aside0.mk (nc_ hg BK711); replace BK711 := Aside0.mk (bb_ BK711 hb); have NB721_736 := Aside0.mk (nb_ hg BK721); have NB736_721 := Aside0.mk (nc_ hg BK721); replace BK721 := Aside0.mk (bb_ BK721 hb); clear hb hbox hg; obtain ⟨Ao65, co65, eo65⟩ := Kd.R_slice HO732.out; subst eo65; have hnb66 := NB736_711.out; have hnc66 := NB711_736.out; have hnb67 := NB736_721.out; have hnc67 := NB721_736.out; obtain ⟨hcz68_0, hcz68_1, hcz68_2, hfz68_0, hfz68_1, hfz68_2⟩ := c3_ BK736))
        go_ret
        exact ⟨by first | rfl | (simp; done) | (simp [*]; done), bl_3 HB GE711 GE721 GE736⟩
       ·rw [if_neg c60] at H
        have c60b0 : (t735 == 8) = false := beq_eq_false_iff_ne.mpr c60
        have c60b1 : (t735 != 8) = true := bne_iff_ne.mpr c60
        exact absurd (H.trans (congrArg some hr)) (by simp)
  ·rw [if_neg c10] at H
   have c10b0 : (t720 == 0) = false := beq_eq_false_iff_ne.mpr c10
   have c10b1 : (t720 != 0) = true := bne_iff_ne.mpr c10
   by_cases c69 : t720 = 8
   ·rw [if_pos c69] at H
    have c69b0 : (t720 == 8) = true := beq_iff_eq.mpr c69
    have c69b1 : (t720 != 8) = false := bne_eq_false_iff_eq.mpr c69
    clear c69
    obtain rfl := Option.some.inj H
    go_enter Try.func5, Try.ntmps5
    go_wp2_with (first | ((with_reducible refine gate_dst (N := 5) rfl ?_); refine box_event ?hg (N := 5) ?hd (cs := #[.slice A0_0 l0_0.length c0_0, .bool a0_1, .int .i64 a0_2]) (t := 24) ?hr ?_; (case hd => rfl); (case hg => rfl); (case hr => first | (go_simp; done) | (go_simp; rfl)); intro gb711 hg w70 hbox hb; have BK711 := Aside0.mk (hbox); have GW711 := Aside0.mk (bs_0 hg HB); have GE711 := Aside0.mk (bs_0 hg HB); replace HB := Aside0.mk (below_step (bl_ HB) hb); clear hb hbox hg) | ((with_reducible refine gate_callee (f := 14) rfl ?_); refine goesL_ (some 25) rfl rfl Try.func14 (by kernel_rfl) rfl #[] rfl (ar_) ?_; (with_reducible refine (gafferlaw02_lives.calls k  true _ A6.out).mono ?_); rintro e w71 ⟨rfl, hb⟩; refine ⟨_, rfl, ?_⟩; replace BK711 := Aside0.mk (bb_ BK711 hb); replace HB := Aside0.mk (below_step (bl_1 HB GE711) hb); (try clear hb); (try clear hb2); (try clear hk); (try clear hi); obtain ⟨hcz72_0, hcz72_1, hcz72_2, hfz72_0, hfz72_1, hfz72_2⟩ := c3_ BK711) | ((with_reducible refine gate_callee (f := 17) rfl ?_); refine goesL_ (some 30) rfl rfl Try.func17 (by kernel_rfl) rfl #[.agg #[.slice A0_0 l0_0.length c0_0, .bool a0_1, .int .i64 a0_2], .string a1] rfl (ar_) ?_; (with_reducible refine (disk_Read.calls k _ _ l0_0 a0_1 a0_2 a1 t713 t714 _ ?side1 ?side2 A8.out).mono ?_); (case side1 => repeat (first | exact (Kd.C_below HR0_0.out HB.out) | (with_reducible refine Kd.C_alloc ?_ _) | (with_reducible refine Kd.C_drewN ?_ _) | (with_reducible refine Kd.C_drew ?_))); (case side2 => exact HC0_0.out); rintro e w73 ⟨rfl, hb⟩; refine ⟨_, rfl, ?_⟩; replace BK711 := Aside0.mk (bb_ BK711 hb); replace HB := Aside0.mk (below_step (bl_1 HB GE711) hb); (try clear hb); (try clear hb2); (try clear hk); (try clear hi); obtain ⟨hcz74_0, hcz74_1, hcz74_2, hfz74_0, hfz74_1, hfz74_2⟩ := c3_ BK711) | ((with_reducible refine gate_callee (f := 18) rfl ?_); refine goesL_ (some 37) rfl rfl Try.func18 (by kernel_rfl) rfl #[.agg #[.slice A0_0 l0_0.length c0_0, .bool a0_1, .int .i64 a0_2], .string a1, .string a2] rfl (ar_) ?_; (with_reducible refine (disk_Add.calls k _ _ l0_0 a0_1 a0_2 a1 a2 t715 t718 t719 t720 _ ?side1 ?side2 A9.out).mono ?_); (case side1 => repeat (first | exact (Kd.C_below HR0_0.out HB.out) | (with_reducible refine Kd.C_alloc ?_ _) | (with_reducible refine Kd.C_drewN ?_ _) | (with_reducible refine Kd.C_drew ?_))); (case side2 => exact HC0_0.out); rintro e w75 ⟨v716, rfl, ho0, hb⟩; refine ⟨_, rfl, ?_⟩; have HO717 := Aside0.mk (Kd.R_lower ho0 (below_size (bl_1 HB GE711))); replace BK711 := Aside0.mk (bb_ BK711 hb); replace HB := Aside0.mk (below_step (bl_1 HB GE711) hb); (try clear hb); (try clear hb2); (try clear hk); (try clear hi); (try clear ho0)) | ((with_reducible refine gate_dst (N := 13) rfl ?_); refine box_event ?hg (N := 13) ?hd (cs := #[.slice none 0 0, .bool false, .int .i64 0]) (t := 24) ?hr ?_; (case hd => rfl); (case hg => rfl); (case hr => first | (go_simp; done) | (go_simp; rfl)); intro gb721 hg w76 hbox hb; replace HO717 := Aside0.mk (Kd.R_below (by (with_reducible repeat (first | apply Kd.R_alloc | apply Kd.R_drewN | apply Kd.R_drew)); exact HO717.out) hb); have BK721 := Aside0.mk (hbox); have GW721 := Aside0.mk (bs_1 hg HB GE711); have GE721 := Aside0.mk (bs_1 hg HB GE711); replace HB := Aside0.mk (below_step (bl_1 HB GE711) hb); have NB711_721 := Aside0.mk (nb_ hg BK711); have NB721_711 := Aside0.mk (nc_ hg BK711); replace BK711 := Aside0.mk (bb_ BK711 hb); clear hb hbox hg; obtain ⟨Ao77, co77, eo77⟩ := Kd.R_slice HO717.out; subst eo77; have hnb78 := NB721_711.out; have hnc78 := NB711_721.out; obtain ⟨hcz79_0, hcz79_1, hcz79_2, hfz79_0, hfz79_1, hfz79_2⟩ := c3_ BK721))
    go_ret
    exact ⟨by first | rfl | (simp; done) | (simp [*]; done), bl_2 HB GE711 GE721⟩
   ·rw [if_neg c69] at H
    have c69b0 : (t720 == 8) = false := beq_eq_false_iff_ne.mpr c69
    have c69b1 : (t720 != 8) = true := bne_iff_ne.mpr c69
    replace H := Option.bind_eq_some_iff.mp H
    obtain ⟨t722, A800, H⟩ := H
    replace H : (if t722 = true then (some true) else ((gafferref02_Same.f k t715 t718 t719 l0_0 a0_1 a0_2).bind fun t723 => (some t723))) = some r := H
    have A80 := Aside0.mk A800
    clear A800
    by_cases c81 : t722 = true
    ·subst c81
     have H1 : (some true) = some r := by rw [if_pos rfl] at H; exact H
     clear H
     have H := H1
     clear H1
     obtain rfl := Option.some.inj H
     go_enter Try.func5, Try.ntmps5
     go_wp2_with (first | ((with_reducible refine gate_dst (N := 5) rfl ?_); refine box_event ?hg (N := 5) ?hd (cs := #[.slice A0_0 l0_0.length c0_0, .bool a0_1, .int .i64 a0_2]) (t := 24) ?hr ?_; (case hd => rfl); (case hg => rfl); (case hr => first | (go_simp; done) | (go_simp; rfl)); intro gb711 hg w82 hbox hb; have BK711 := Aside0.mk (hbox); have GW711 := Aside0.mk (bs_0 hg HB); have GE711 := Aside0.mk (bs_0 hg HB); replace HB := Aside0.mk (below_step (bl_ HB) hb); clear hb hbox hg) | ((with_reducible refine gate_callee (f := 14) rfl ?_); refine goesL_ (some 25) rfl rfl Try.func14 (by kernel_rfl) rfl #[] rfl (ar_) ?_; (with_reducible refine (gafferlaw02_lives.calls k  true _ A6.out).mono ?_); rintro e w83 ⟨rfl, hb⟩; refine ⟨_, rfl, ?_⟩; replace BK711 := Aside0.mk (bb_ BK711 hb); replace HB := Aside0.mk (below_step (bl_1 HB GE711) hb); (try clear hb); (try clear hb2); (try clear hk); (try clear hi); obtain ⟨hcz84_0, hcz84_1, hcz84_2, hfz84_0, hfz84_1, hfz84_2⟩ := c3_ BK711) | ((with_reducible refine gate_callee (f := 17) rfl ?_); refine goesL_ (some 30) rfl rfl Try.func17 (by kernel_rfl) rfl #[.agg #[.slice A0_0 l0_0.length c0_0, .bool a0_1, .int .i64 a0_2], .string a1] rfl (ar_) ?_; (with_reducible refine (disk_Read.calls k _ _ l0_0 a0_1 a0_2 a1 t713 t714 _ ?side1 ?side2 A8.out).mono ?_); (case side1 => repeat (first | exact (Kd.C_below HR0_0.out HB.out) | (with_reducible refine Kd.C_alloc ?_ _) | (with_reducible refine Kd.C_drewN ?_ _) | (with_reducible refine Kd.C_drew ?_))); (case side2 => exact HC0_0.out); rintro e w85 ⟨rfl, hb⟩; refine ⟨_, rfl, ?_⟩; replace BK711 := Aside0.mk (bb_ BK711 hb); replace HB := Aside0.mk (below_step (bl_1 HB GE711) hb); (try clear hb); (try clear hb2); (try clear hk); (try clear hi); obtain ⟨hcz86_0, hcz86_1, hcz86_2, hfz86_0, hfz86_1, hfz86_2⟩ := c3_ BK711) | ((with_reducible refine gate_callee (f := 18) rfl ?_); refine goesL_ (some 37) rfl rfl Try.func18 (by kernel_rfl) rfl #[.agg #[.slice A0_0 l0_0.length c0_0, .bool a0_1, .int .i64 a0_2], .string a1, .string a2] rfl (ar_) ?_; (with_reducible refine (disk_Add.calls k _ _ l0_0 a0_1 a0_2 a1 a2 t715 t718 t719 t720 _ ?side1 ?side2 A9.out).mono ?_); (case side1 => repeat (first | exact (Kd.C_below HR0_0.out HB.out) | (with_reducible refine Kd.C_alloc ?_ _) | (with_reducible refine Kd.C_drewN ?_ _) | (with_reducible refine Kd.C_drew ?_))); (case side2 => exact HC0_0.out); rintro e w87 ⟨v716, rfl, ho0, hb⟩; refine ⟨_, rfl, ?_⟩; have HO717 := Aside0.mk (Kd.R_lower ho0 (below_size (bl_1 HB GE711))); replace BK711 := Aside0.mk (bb_ BK711 hb); replace HB := Aside0.mk (below_step (bl_1 HB GE711) hb); (try clear hb); (try clear hb2); (try clear hk); (try clear hi); (try clear ho0)) | ((with_reducible refine gate_dst (N := 13) rfl ?_); refine box_event ?hg (N := 13) ?hd (cs := #[.slice none 0 0, .bool false, .int .i64 0]) (t := 24) ?hr ?_; (case hd => rfl); (case hg => rfl); (case hr => first | (go_simp; done) | (go_simp; rfl)); intro gb721 hg w88 hbox hb; replace HO717 := Aside0.mk (Kd.R_below (by (with_reducible repeat (first | apply Kd.R_alloc | apply Kd.R_drewN | apply Kd.R_drew)); exact HO717.out) hb); have BK721 := Aside0.mk (hbox); have GW721 := Aside0.mk (bs_1 hg HB GE711); have GE721 := Aside0.mk (bs_1 hg HB GE711); replace HB := Aside0.mk (below_step (bl_1 HB GE711) hb); have NB711_721 := Aside0.mk (nb_ hg BK711); have NB721_711 := Aside0.mk (nc_ hg BK711); replace BK711 := Aside0.mk (bb_ BK711 hb); clear hb hbox hg; obtain ⟨Ao89, co89, eo89⟩ := Kd.R_slice HO717.out; subst eo89; have hnb90 := NB721_711.out; have hnc90 := NB711_721.out; obtain ⟨hcz91_0, hcz91_1, hcz91_2, hfz91_0, hfz91_1, hfz91_2⟩ := c3_ BK721) | (go_at_call 15; (refine (gafferref02_Same.calls k _ _ t715 t718 t719 _ _ ([] : List (S35)) false 0 true _ ?side1 ?side2 ?side3 ?side4 A80.out).mono ?_); (case side1 => refine (Kd.R_reads' (e := 35) (base := w.heap.size) (ok := fun k_ => True) (n := t715.length) (c := co89) ?_).2.2; exact (by (with_reducible repeat (first | apply Kd.R_alloc | apply Kd.R_drewN | apply Kd.R_drew)); exact (Kd.R_mono (Kd.R_far (p := ⟨gb721, 2, none⟩) (Kd.R_far (p := ⟨gb721, 1, none⟩) (Kd.R_far (p := ⟨gb721, 0, none⟩) (Kd.R_types HO717.out BK721.out (by decide)) (fun _ hk => hk.2) (.slice Ao89 t715.length co89)) (fun _ hk => hk.2) (.bool t718)) (fun _ hk => hk.2) (.int .i64 t719)) (fun _ h_ => h_.1)))); (case side2 => exact (Kd.R_reads' HO717.out).2.1); (case side3 => exact Kd.C_nil _ _); (case side4 => exact Nat.le_refl _); rintro e w92 ⟨rfl, hb⟩; (try clear A80); replace HO717 := Aside0.mk (Kd.R_below (by (with_reducible repeat (first | apply Kd.R_alloc | apply Kd.R_drewN | apply Kd.R_drew)); exact (Kd.R_mono (Kd.R_far (p := ⟨gb721, 2, none⟩) (Kd.R_far (p := ⟨gb721, 1, none⟩) (Kd.R_far (p := ⟨gb721, 0, none⟩) (Kd.R_types HO717.out BK721.out (by decide)) (fun _ hk => hk.2) (.slice Ao89 t715.length co89)) (fun _ hk => hk.2) (.bool t718)) (fun _ hk => hk.2) (.int .i64 t719)) (fun _ h_ => h_.1))) hb); replace BK711 := Aside0.mk (blk_below (g := gb711) (o := .cells #[.slice A0_0 l0_0.length c0_0, .bool a0_1, .int .i64 a0_2] 24 (0, 0)) (bp_1 BK711 NB711_721) hb); replace BK721 := Aside0.mk (blk_below (g := gb721) (o := .cells #[.slice Ao89 t715.length co89, .bool t718, .int .i64 t719] 24 (0, 0)) (bp_0 BK721) hb); replace HB := Aside0.mk (below_step (bl_2 HB GE711 GE721) hb); (try clear hb); (try clear hb2); (try clear hk); (try clear hi)))
     go_ret
     exact ⟨by first | rfl | (simp; done) | (simp [*]; done), bl_2 HB GE711 GE721⟩
    ·replace c81 := Bool.eq_false_iff.mpr c81
     subst c81
     have H1 : ((gafferref02_Same.f k t715 t718 t719 l0_0 a0_1 a0_2).bind fun t723 => (some t723)) = some r := by rw [if_neg (show ¬ (false = true) by decide)] at H; exact H
     clear H
     have H := H1
     clear H1
     replace H := Option.bind_eq_some_iff.mp H
     obtain ⟨t723, A930, H⟩ := H
     replace H : (some t723) = some r := H
     have A93 := Aside0.mk A930
     clear A930
     obtain rfl := Option.some.inj H
     go_enter Try.func5, Try.ntmps5
     go_wp2_with (first | ((with_reducible refine gate_dst (N := 5) rfl ?_); refine box_event ?hg (N := 5) ?hd (cs := #[.slice A0_0 l0_0.length c0_0, .bool a0_1, .int .i64 a0_2]) (t := 24) ?hr ?_; (case hd => rfl); (case hg => rfl); (case hr => first | (go_simp; done) | (go_simp; rfl)); intro gb711 hg w94 hbox hb; have BK711 := Aside0.mk (hbox); have GW711 := Aside0.mk (bs_0 hg HB); have GE711 := Aside0.mk (bs_0 hg HB); replace HB := Aside0.mk (below_step (bl_ HB) hb); clear hb hbox hg) | ((with_reducible refine gate_callee (f := 14) rfl ?_); refine goesL_ (some 25) rfl rfl Try.func14 (by kernel_rfl) rfl #[] rfl (ar_) ?_; (with_reducible refine (gafferlaw02_lives.calls k  true _ A6.out).mono ?_); rintro e w95 ⟨rfl, hb⟩; refine ⟨_, rfl, ?_⟩; replace BK711 := Aside0.mk (bb_ BK711 hb); replace HB := Aside0.mk (below_step (bl_1 HB GE711) hb); (try clear hb); (try clear hb2); (try clear hk); (try clear hi); obtain ⟨hcz96_0, hcz96_1, hcz96_2, hfz96_0, hfz96_1, hfz96_2⟩ := c3_ BK711) | ((with_reducible refine gate_callee (f := 17) rfl ?_); refine goesL_ (some 30) rfl rfl Try.func17 (by kernel_rfl) rfl #[.agg #[.slice A0_0 l0_0.length c0_0, .bool a0_1, .int .i64 a0_2], .string a1] rfl (ar_) ?_; (with_reducible refine (disk_Read.calls k _ _ l0_0 a0_1 a0_2 a1 t713 t714 _ ?side1 ?side2 A8.out).mono ?_); (case side1 => repeat (first | exact (Kd.C_below HR0_0.out HB.out) | (with_reducible refine Kd.C_alloc ?_ _) | (with_reducible refine Kd.C_drewN ?_ _) | (with_reducible refine Kd.C_drew ?_))); (case side2 => exact HC0_0.out); rintro e w97 ⟨rfl, hb⟩; refine ⟨_, rfl, ?_⟩; replace BK711 := Aside0.mk (bb_ BK711 hb); replace HB := Aside0.mk (below_step (bl_1 HB GE711) hb); (try clear hb); (try clear hb2); (try clear hk); (try clear hi); obtain ⟨hcz98_0, hcz98_1, hcz98_2, hfz98_0, hfz98_1, hfz98_2⟩ := c3_ BK711) | ((with_reducible refine gate_callee (f := 18) rfl ?_); refine goesL_ (some 37) rfl rfl Try.func18 (by kernel_rfl) rfl #[.agg #[.slice A0_0 l0_0.length c0_0, .bool a0_1, .int .i64 a0_2], .string a1, .string a2] rfl (ar_) ?_; (with_reducible refine (disk_Add.calls k _ _ l0_0 a0_1 a0_2 a1 a2 t715 t718 t719 t720 _ ?side1 ?side2 A9.out).mono ?_); (case side1 => repeat (first | exact (Kd.C_below HR0_0.out HB.out) | (with_reducible refine Kd.C_alloc ?_ _) | (with_reducible refine Kd.C_drewN ?_ _) | (with_reducible refine Kd.C_drew ?_))); (case side2 => exact HC0_0.out); rintro e w99 ⟨v716, rfl, ho0, hb⟩; refine ⟨_, rfl, ?_⟩; have HO717 := Aside0.mk (Kd.R_lower ho0 (below_size (bl_1 HB GE711))); replace BK711 := Aside0.mk (bb_ BK711 hb); replace HB := Aside0.mk (below_step (bl_1 HB GE711) hb); (try clear hb); (try clear hb2); (try clear hk); (try clear hi); (try clear ho0)) | ((with_reducible refine gate_dst (N := 13) rfl ?_); refine box_event ?hg (N := 13) ?hd (cs := #[.slice none 0 0, .bool false, .int .i64 0]) (t := 24) ?hr ?_; (case hd => rfl); (case hg => rfl); (case hr => first | (go_simp; done) | (go_simp; rfl)); intro gb721 hg w100 hbox hb; replace HO717 := Aside0.mk (Kd.R_below (by (with_reducible repeat (first | apply Kd.R_alloc | apply Kd.R_drewN | apply Kd.R_drew)); exact HO717.out) hb); have BK721 := Aside0.mk (hbox); have GW721 := Aside0.mk (bs_1 hg HB GE711); have GE721 := Aside0.mk (bs_1 hg HB GE711); replace HB := Aside0.mk (below_step (bl_1 HB GE711) hb); have NB711_721 := Aside0.mk (nb_ hg BK711); have NB721_711 := Aside0.mk (nc_ hg BK711); replace BK711 := Aside0.mk (bb_ BK711 hb); clear hb hbox hg; obtain ⟨Ao101, co101, eo101⟩ := Kd.R_slice HO717.out; subst eo101; have hnb102 := NB721_711.out; have hnc102 := NB711_721.out; obtain ⟨hcz103_0, hcz103_1, hcz103_2, hfz103_0, hfz103_1, hfz103_2⟩ := c3_ BK721) | (go_at_call 15; (refine (gafferref02_Same.calls k _ _ t715 t718 t719 _ _ ([] : List (S35)) false 0 false _ ?side1 ?side2 ?side3 ?side4 A80.out).mono ?_); (case side1 => refine (Kd.R_reads' (e := 35) (base := w.heap.size) (ok := fun k_ => True) (n := t715.length) (c := co101) ?_).2.2; exact (by (with_reducible repeat (first | apply Kd.R_alloc | apply Kd.R_drewN | apply Kd.R_drew)); exact (Kd.R_mono (Kd.R_far (p := ⟨gb721, 2, none⟩) (Kd.R_far (p := ⟨gb721, 1, none⟩) (Kd.R_far (p := ⟨gb721, 0, none⟩) (Kd.R_types HO717.out BK721.out (by decide)) (fun _ hk => hk.2) (.slice Ao101 t715.length co101)) (fun _ hk => hk.2) (.bool t718)) (fun _ hk => hk.2) (.int .i64 t719)) (fun _ h_ => h_.1)))); (case side2 => exact (Kd.R_reads' HO717.out).2.1); (case side3 => exact Kd.C_nil _ _); (case side4 => exact Nat.le_refl _); rintro e w104 ⟨rfl, hb⟩; (try clear A80); replace HO717 := Aside0.mk (Kd.R_below (by (with_reducible repeat (first | apply Kd.R_alloc | apply Kd.R_drewN | apply Kd.R_drew)); exact (Kd.R_mono (Kd.R_far (p := ⟨gb721, 2, none⟩) (Kd.R_far (p := ⟨gb721, 1, none⟩) (Kd.R_far (p := ⟨gb721, 0, none⟩) (Kd.R_types HO717.out BK721.out (by decide)) (fun _ hk => hk.2) (.slice Ao101 t715.length co101)) (fun _ hk => hk.2) (.bool t718)) (fun _ hk => hk.2) (.int .i64 t719)) (fun _ h_ => h_.1))) hb); replace BK711 := Aside0.mk (blk_below (g := gb711) (o := .cells #[.slice A0_0 l0_0.length c0_0, .bool a0_1, .int .i64 a0_2] 24 (0, 0)) (bp_1 BK711 NB711_721) hb); replace BK721 := Aside0.mk (blk_below (g := gb721) (o := .cells #[.slice Ao101 t715.length co101, .bool t718, .int .i64 t719] 24 (0, 0)) (bp_0 BK721) hb); replace HB := Aside0.mk (below_step (bl_2 HB GE711 GE721) hb); (try clear hb); (try clear hb2); (try clear hk); (try clear hi); obtain ⟨hcz105_0, hcz105_1, hcz105_2, hfz105_0, hfz105_1, hfz105_2⟩ := c3_ BK721; obtain ⟨hcz106_0, hcz106_1, hcz106_2, hfz106_0, hfz106_1, hfz106_2⟩ := c3_ BK711) | (go_at_call 15; (with_reducible refine (gafferref02_Same.calls k _ _ t715 t718 t719 _ _ l0_0 a0_1 a0_2 t723 _ ?side1 ?side2 ?side3 ?side4 A93.out).mono ?_); (case side1 => repeat (first | exact (Kd.R_reads' HO717.out).2.2 | (with_reducible refine Kd.C_alloc ?_ _) | (with_reducible refine Kd.C_drewN ?_ _) | (with_reducible refine Kd.C_drew ?_))); (case side2 => exact (Kd.R_reads' HO717.out).2.1); (case side3 => repeat (first | exact (Kd.C_below HR0_0.out HB.out) | (with_reducible refine Kd.C_alloc ?_ _) | (with_reducible refine Kd.C_drewN ?_ _) | (with_reducible refine Kd.C_drew ?_))); (case side4 => exact HC0_0.out); rintro e w107 ⟨rfl, hb⟩; replace HO717 := Aside0.mk (Kd.R_below (by (with_reducible repeat (first | apply Kd.R_alloc | apply Kd.R_drewN | apply Kd.R_drew)); exact HO717.out) hb); replace BK711 := Aside0.mk (bb_ BK711 hb); replace BK721 := Aside0.mk (bb_ BK721 hb); replace HB := Aside0.mk (below_step (bl_2 HB GE711 GE721) hb); (try clear hb); (try clear hb2); (try clear hk); (try clear hi)))
     go_ret
     exact ⟨by first | rfl | (simp; done) | (simp [*]; done), bl_2 HB GE711 GE721⟩
 ·replace c7 := Bool.eq_false_iff.mpr c7
  subst c7
  have H1 : (some false) = some r := by rw [if_neg (show ¬ (false = true) by decide)] at H; exact H
  clear H
  have H := H1
  clear H1
  exact absurd (H.trans (congrArg some hr)) (by simp)

/-- THE ONE PURE STATEMENT of gafferlaw02_DiskBehind: yours. -/
def gafferlaw02_DiskBehind.Pure : Prop := ∀ (x0 : S24) (x1 : ByteArray) (x2 : ByteArray) (x3 : ByteArray) (x4 : List Int), ok24 x0 → okStr x1 → okStr x2 → okStr x3 → (okSl 8 (okInt .i64)) x4 → ∃ k, gafferlaw02_DiskBehind.f k x0.f0 x0.f1 x0.f2 x1 x2 x3 x4 = some true

end Go.Proofs.Ytpdacpopkegecaa.PA
