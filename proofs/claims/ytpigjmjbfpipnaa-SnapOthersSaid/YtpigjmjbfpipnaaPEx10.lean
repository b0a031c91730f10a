-- Written for this claim by a program of this session. Lean checks it.
import Derived.Test.YtpigjmjbfpipnaaPEx0
import Derived.Test.YtpigjmjbfpipnaaPEx2
import Derived.Test.YtpigjmjbfpipnaaPEx7
import Derived.Test.YtpigjmjbfpipnaaPEx8
import Derived.Test.YtpigjmjbfpipnaaPEx9
namespace Go.Proofs.Ytpigjmjbfpipnaa.PE
open Go.RowKit Go.Proofs.YtpigjmjbfpipnaaW.PrintWords Go.Proofs.YtpigjmjbfpipnaaW.PrintLast Go.Proofs.YtpigjmjbfpipnaaW.PrintMore Go.Proofs.Ytpigjmjbfpipnaa.Sh Go.Proofs.Ytpigjmjbfpipnaa.Op
attribute [local go_sem] max2_int min2_int max_two min_two max_three min_three max_four min_four   -- for this text's walks alone
set_option linter.unusedVariables false
set_option maxHeartbeats 80000000
set_option maxRecDepth 100000
set_option linter.unusedSimpArgs false

/-! ### disk_done: function 96 -/
mutual
def disk_done.j0 : Nat → Int → List (S71) → Bool → Int → Int → ByteArray → ByteArray → ByteArray → Int → Option ((List (S71)) × Bool × Int × Int)
 | 0, _, _, _, _, _, _, _, _, _ => none
 | k + 1, x8, x240000, x240001, x240002, x241000, x241001, x241002, x241003, x241004 => if x240002 = 0 then (some (x240000, true, x240002, 8)) else (if x240002 > 0 then (disk_done.j1 k x8 x240000 x240001 (wrap64 (x240002 - 1)) x241000 x241001 x241002 x241003 x241004) else (disk_done.j1 k x8 x240000 x240001 x240002 x241000 x241001 x241002 x241003 x241004))
def disk_done.j1 : Nat → Int → List (S71) → Bool → Int → Int → ByteArray → ByteArray → ByteArray → Int → Option ((List (S71)) × Bool × Int × Int)
 | 0, _, _, _, _, _, _, _, _, _ => none
 | k + 1, x8, x240000, x240001, x240002, x241000, x241001, x241002, x241003, x241004 => if 0 ≤ x8 then (if x8 < (x240000.length : Int) then (if x241000 = 1 then (some ((x240000.set (x8 : Int).toNat (⟨(rd_T71 x240000 x8).f0, (rd_T71 x240000 x8).f1, (((rd_T71 x240000 x8).f1).size : Int)⟩ : S71)), x240001, x240002, 0)) else (if x241000 = 2 then (if 0 ≤ x241004 then (if x241004 ≤ (((rd_T71 x240000 x8).f1).size : Int) then ((some (x240000.set (x8 : Int).toNat (⟨(rd_T71 x240000 x8).f0, ((rd_T71 x240000 x8).f1).extract 0 (x241004 : Int).toNat, (rd_T71 x240000 x8).f2⟩ : S71) : List (S71))).bind fun y262 => (some ((y262.set (x8 : Int).toNat (⟨(rd_T71 y262 x8).f0, (rd_T71 y262 x8).f1, mn ((rd_T71 y262 x8).f2) x241004⟩ : S71)), x240001, x240002, 0))) else (none)) else (none)) else (if x241000 = 4 then ((api_File_109.f x240000 x8 (wrap64 (x8 + 1))).bind fun t265 => (some (t265, x240001, x240002, 0))) else (if x241000 = 3 then ((api_File_109.f x240000 x8 (wrap64 (x8 + 1))).bind fun t270 => ((disk_place.f k t270 x240001 x240002 x241002).bind fun bt273 => (if bt273.2 = true then (if 0 ≤ bt273.1 then (if bt273.1 < (t270.length : Int) then (some ((t270.set (bt273.1 : Int).toNat (⟨x241002, (rd_T71 x240000 x8).f1, (rd_T71 x240000 x8).f2⟩ : S71)), x240001, x240002, 0)) else (none)) else (none)) else ((api_File_108.f t270 bt273.1 (([(⟨x241002, (rd_T71 x240000 x8).f1, (rd_T71 x240000 x8).f2⟩ : S71)] : List (S71)))).bind fun t279 => (some (t279, x240001, x240002, 0)))))) else (some (x240000, x240001, x240002, 0)))))) else (none)) else (none)
end
def disk_done.f (k : Nat) (l0_0 : List (S71)) (a0_1 : Bool) (a0_2 : Int) (a1_0 : Int) (a1_1 : ByteArray) (a1_2 : ByteArray) (a1_3 : ByteArray) (a1_4 : Int) : Option ((List (S71)) × Bool × Int × Int) := (disk_Check.f k l0_0 a0_1 a0_2).bind fun t242 => (if t242 = 0 then ((api_File_48.f l0_0).bind fun t243 => (if a0_1 = true then (some (t243, a0_1, a0_2, 8)) else ((disk_change_refused.f k a1_0 a1_1 a1_2 a1_3 a1_4 t243 a0_1 a0_2).bind fun t246 => (if t246 = 0 then ((disk_place.f k t243 a0_1 a0_2 a1_1).bind fun bt247 => (if a1_0 = 0 then (if bt247.2 = true then (if 0 ≤ bt247.1 then (if bt247.1 < (t243.length : Int) then (if ((rd_T71 t243 bt247.1).f1).size + a1_3.size ≤ 9223372036854775807 then (disk_done.j0 k bt247.1 (t243.set (bt247.1 : Int).toNat (⟨(rd_T71 t243 bt247.1).f0, ((rd_T71 t243 bt247.1).f1) ++ a1_3, (rd_T71 t243 bt247.1).f2⟩ : S71)) a0_1 a0_2 a1_0 a1_1 a1_2 a1_3 a1_4) else (none)) else (none)) else (none)) else ((api_File_108.f t243 bt247.1 (([(⟨a1_1, (⟨#[]⟩ : ByteArray), 0⟩ : S71)] : List (S71)))).bind fun t254 => (if 0 ≤ bt247.1 then (if bt247.1 < (t254.length : Int) then (if ((rd_T71 t254 bt247.1).f1).size + a1_3.size ≤ 9223372036854775807 then (disk_done.j0 k bt247.1 (t254.set (bt247.1 : Int).toNat (⟨(rd_T71 t254 bt247.1).f0, ((rd_T71 t254 bt247.1).f1) ++ a1_3, (rd_T71 t254 bt247.1).f2⟩ : S71)) a0_1 a0_2 a1_0 a1_1 a1_2 a1_3 a1_4) else (none)) else (none)) else (none)))) else (disk_done.j0 k bt247.1 t243 a0_1 a0_2 a1_0 a1_1 a1_2 a1_3 a1_4))) else (some (t243, a0_1, a0_2, t246)))))) else (some (([] : List (S71)), false, 0, t242)))
theorem disk_done.mono_l : ∀ k, (∀ y0 y1 y2 y3 y4 y5 y6 y7 y8, LeO (disk_done.j0 k y0 y1 y2 y3 y4 y5 y6 y7 y8) (disk_done.j0 (k + 1) y0 y1 y2 y3 y4 y5 y6 y7 y8)) ∧ (∀ y0 y1 y2 y3 y4 y5 y6 y7 y8, LeO (disk_done.j1 k y0 y1 y2 y3 y4 y5 y6 y7 y8) (disk_done.j1 (k + 1) y0 y1 y2 y3 y4 y5 y6 y7 y8))
 | 0 => ⟨fun _ _ _ _ _ _ _ _ _ r h => by simp [disk_done.j0] at h, fun _ _ _ _ _ _ _ _ _ r h => by simp [disk_done.j1] at h⟩
 | k + 1 => by
  obtain ⟨ih0, ih1⟩ := disk_done.mono_l k
  refine ⟨?_, ?_⟩
  ·intro y0 y1 y2 y3 y4 y5 y6 y7 y8
   unfold disk_done.j0
   repeat' with_reducible first | exact ih0 _ _ _ _ _ _ _ _ _ | exact ih1 _ _ _ _ _ _ _ _ _ | exact disk_Check.mono _ _ _ _ | exact disk_change_refused.mono _ _ _ _ _ _ _ _ _ | exact disk_place.mono _ _ _ _ _ | exact LeO.refl _ | exact LeO.none _ | refine LeO.ite ?_ ?_ | refine LeO.bind ?_ (fun _ => ?_)
  ·intro y0 y1 y2 y3 y4 y5 y6 y7 y8
   unfold disk_done.j1
   repeat' with_reducible first | exact ih0 _ _ _ _ _ _ _ _ _ | exact ih1 _ _ _ _ _ _ _ _ _ | exact disk_Check.mono _ _ _ _ | exact disk_change_refused.mono _ _ _ _ _ _ _ _ _ | exact disk_place.mono _ _ _ _ _ | exact LeO.refl _ | exact LeO.none _ | refine LeO.ite ?_ ?_ | refine LeO.bind ?_ (fun _ => ?_)
theorem disk_done.mono : ∀ a0 a1 a2 a3 a4 a5 a6 a7 k, LeO (disk_done.f k a0 a1 a2 a3 a4 a5 a6 a7) (disk_done.f (k + 1) a0 a1 a2 a3 a4 a5 a6 a7) := by
 intro a0 a1 a2 a3 a4 a5 a6 a7 k
 obtain ⟨ih0, ih1⟩ := disk_done.mono_l k
 unfold disk_done.f
 repeat' with_reducible first | exact ih0 _ _ _ _ _ _ _ _ _ | exact ih1 _ _ _ _ _ _ _ _ _ | exact disk_Check.mono _ _ _ _ | exact disk_change_refused.mono _ _ _ _ _ _ _ _ _ | exact disk_place.mono _ _ _ _ _ | exact LeO.refl _ | exact LeO.none _ | refine LeO.ite ?_ ?_ | refine LeO.bind ?_ (fun _ => ?_)
def disk_done.T14 : Bool × List (List Nat × List Nat) := (true, [([], []), ([0], [0]), ([], []), ([1, 2], [1, 2]), ([3], [3]), ([4], [4]), ([], []), ([6], [6]), ([5, 7], [5, 7]), ([1, 2, 0, 1, 2, 3, 4, 5, 6, 7, 8], [1, 2]), ([9, 0, 1, 2, 3, 4, 5, 6, 7, 8], [9]), ([10, 8, 0, 1, 2, 3, 4, 5, 6, 7, 8], [8, 10])])
def disk_done.B14 : List Nat := [0, 1, 0, 7, 15, 31, 0, 64, 255, 511, 1023, 2047]
theorem disk_done.tab14 : rtab .any (opsOf Try.f96 14) = disk_done.T14 := by kernel_rfl
theorem disk_done.bits14 : waitsOk disk_done.T14.2 disk_done.B14 = true := by kernel_rfl
def disk_done.T25 : Bool × List (List Nat × List Nat) := (true, [([], []), ([], []), ([1], [1]), ([2], [2]), ([3], [3]), ([], []), ([5], [5]), ([4, 6], [4, 6]), ([0, 0, 1, 2, 3, 4, 5, 6, 7], [0]), ([8, 0, 1, 2, 3, 4, 5, 6, 7], [8]), ([9, 7, 0, 1, 2, 3, 4, 5, 6, 7], [7, 9])])
def disk_done.B25 : List Nat := [0, 0, 2, 6, 14, 0, 32, 126, 255, 511, 1023]
theorem disk_done.tab25 : rtab .any (opsOf Try.f96 25) = disk_done.T25 := by kernel_rfl
theorem disk_done.bits25 : waitsOk disk_done.T25.2 disk_done.B25 = true := by kernel_rfl
def disk_done.T26 : Bool × List (List Nat × List Nat) := (true, [([], []), ([], []), ([1], [1]), ([2], [2]), ([3], [3]), ([], []), ([5], [5]), ([4, 6], [4, 6]), ([0, 0, 1, 2, 3, 4, 5, 6, 7], [0]), ([8, 0, 1, 2, 3, 4, 5, 6, 7], [8]), ([9, 7, 0, 1, 2, 3, 4, 5, 6, 7], [7, 9])])
def disk_done.B26 : List Nat := [0, 0, 2, 6, 14, 0, 32, 126, 255, 511, 1023]
theorem disk_done.tab26 : rtab .any (opsOf Try.f96 26) = disk_done.T26 := by kernel_rfl
theorem disk_done.bits26 : waitsOk disk_done.T26.2 disk_done.B26 = true := by kernel_rfl
theorem disk_done.calls (k : Nat) (A0_0 : Option Addr) (c0_0 : Nat) (l0_0 : List (S71)) (a0_1 : Bool) (a0_2 : Int) (a1_0 : Int) (a1_1 : ByteArray) (a1_2 : ByteArray) (a1_3 : ByteArray) (a1_4 : Int) (r1 : List (S71)) (r2 : Bool) (r3 : Int) (r4 : Int) (w : World) (hr0_0 : Kd.C k71 w A0_0 l0_0.length l0_0) (hc0_0 : l0_0.length ≤ c0_0) (h : disk_done.f k l0_0 a0_1 a0_2 a1_0 a1_1 a1_2 a1_3 a1_4 = some (r1, r2, r3, r4)) :
  Calls Try.prog 96 #[.agg #[.slice A0_0 l0_0.length c0_0, .bool a0_1, .int .i64 a0_2], .agg #[.int .u8 a1_0, .string a1_1, .string a1_2, .string a1_3, .int .i64 a1_4]] w fun e w' => ∃ v0_ : Value, e = .returned (.tuple #[.agg #[v0_, .bool r2, .int .i64 r3], .int .i64 r4]) ∧ Kd.R k71 71 w' w.heap.size (fun _ => True) v0_ r1 ∧ Below w.heap.size w w' := by
 have hu24 := Try.underlying24
 have hu115 := Try.underlying115
 have hu71 := Try.underlying71
 have HR0_0 := a_ hr0_0
 have HC0_0 := a_ hc0_0
 clear hr0_0 hc0_0
 have HB := a_ (Below.refl w.heap.size w)
 have H : ((disk_Check.f k l0_0 a0_1 a0_2).bind fun t242 => (if t242 = 0 then ((api_File_48.f l0_0).bind fun t243 => (if a0_1 = true then (some (t243, a0_1, a0_2, 8)) else ((disk_change_refused.f k a1_0 a1_1 a1_2 a1_3 a1_4 t243 a0_1 a0_2).bind fun t246 => (if t246 = 0 then ((disk_place.f k t243 a0_1 a0_2 a1_1).bind fun bt247 => (if a1_0 = 0 then (if bt247.2 = true then (if 0 ≤ bt247.1 then (if bt247.1 < (t243.length : Int) then (if ((rd_T71 t243 bt247.1).f1).size + a1_3.size ≤ 9223372036854775807 then (disk_done.j0 k bt247.1 (t243.set (bt247.1 : Int).toNat (⟨(rd_T71 t243 bt247.1).f0, ((rd_T71 t243 bt247.1).f1) ++ a1_3, (rd_T71 t243 bt247.1).f2⟩ : S71)) a0_1 a0_2 a1_0 a1_1 a1_2 a1_3 a1_4) else (none)) else (none)) else (none)) else ((api_File_108.f t243 bt247.1 (([(⟨a1_1, (⟨#[]⟩ : ByteArray), 0⟩ : S71)] : List (S71)))).bind fun t254 => (if 0 ≤ bt247.1 then (if bt247.1 < (t254.length : Int) then (if ((rd_T71 t254 bt247.1).f1).size + a1_3.size ≤ 9223372036854775807 then (disk_done.j0 k bt247.1 (t254.set (bt247.1 : Int).toNat (⟨(rd_T71 t254 bt247.1).f0, ((rd_T71 t254 bt247.1).f1) ++ a1_3, (rd_T71 t254 bt247.1).f2⟩ : S71)) a0_1 a0_2 a1_0 a1_1 a1_2 a1_3 a1_4) else (none)) else (none)) else (none)))) else (disk_done.j0 k bt247.1 t243 a0_1 a0_2 a1_0 a1_1 a1_2 a1_3 a1_4))) else (some (t243, a0_1, a0_2, t246)))))) else (some (([] : List (S71)), false, 0, t242)))) = some (r1, r2, r3, r4) := h
 clear h
 obtain ⟨t242, A30, H⟩ := Option.bind_eq_some_iff.mp H
 try dsimp only at H
 have A3 := a_ A30
 clear A30
 by_cases c4 : t242 = 0
 rotate_left
 ·rw [if_neg c4] at H
  have c4b0 : (t242 == 0) = false := beq_eq_false_iff_ne.mpr c4
  have c4b1 : (t242 != 0) = true := bne_iff_ne.mpr c4
  simp only [Option.some.injEq, Prod.mk.injEq] at H
  obtain ⟨rfl, rfl, rfl, rfl⟩ := H
  go_enter Try.func96, Try.ntmps96
  go_wp2_with (first | ((with_reducible refine gd_ 2 ?_); refine bx_ 2 #[.slice A0_0 l0_0.length c0_0, .bool a0_1, .int .i64 a0_2] 24 ?_; intro gb239 hg w213 hbox hb; have BK239 := a_ (hbox); have GE239 := a_ (bs_0 hg HB); replace HB := hB_ (bl_ HB) hb; clear hb hbox hg) | ((with_reducible refine gd_ 3 ?_); refine bx_ 3 #[.int .u8 a1_0, .string a1_1, .string a1_2, .string a1_3, .int .i64 a1_4] 115 ?_; intro gb240 hg w214 hbox hb; have BK240 := a_ (hbox); have GE240 := a_ (bs_1 hg HB GE239); replace HB := hB_ (bl_1 HB GE239) hb; have NB239_240 := nB_ hg BK239; have NB240_239 := nC_ hg BK239; replace BK239 := bB_ BK239 hb; clear hb hbox hg) | ((with_reducible refine gd_ 4 ?_); refine bx_ 4 #[.slice none 0 0, .bool false, .int .i64 0] 24 ?_; intro gb241 hg w215 hbox hb; have BK241 := a_ (hbox); have GE241 := a_ (bs_2 hg HB GE239 GE240); replace HB := hB_ (bl_2 HB GE239 GE240) hb; have NB239_241 := nB_ hg BK239; have NB241_239 := nC_ hg BK239; replace BK239 := bB_ BK239 hb; have NB240_241 := nB_ hg BK240; have NB241_240 := nC_ hg BK240; replace BK240 := bB_ BK240 hb; clear hb hbox hg; have hnb216 := NB239_240.out; have hnc216 := NB240_239.out; have hnb217 := NB239_241.out; have hnc217 := NB241_239.out; obtain ⟨hcz218_0, hcz218_1, hcz218_2, hfz218_0, hfz218_1, hfz218_2⟩ := c3_ BK239) | ((with_reducible refine gk_ 37 ?_); refine gl_ (some 15) Try.func37 #[.agg #[.slice A0_0 l0_0.length c0_0, .bool a0_1, .int .i64 a0_2]] ?_; (with_reducible refine (disk_Check.calls k _ _ l0_0 a0_1 a0_2 t242 _ ?side1 ?side2 A3.out).mono ?_); (case side1 => exact cl_ (Kd.C_below HR0_0.out HB.out)); (case side2 => exact HC0_0.out); rintro e w219 ⟨rfl, hb⟩; refine ⟨_, rfl, ?_⟩; replace BK239 := bB_ BK239 hb; replace BK240 := bB_ BK240 hb; replace BK241 := bB_ BK241 hb; replace HB := hB_ (bl_3 HB GE239 GE240 GE241) hb; (try clear hb); have hnb220 := NB241_240.out; have hnc220 := NB240_241.out; obtain ⟨hcz221_0, hcz221_1, hcz221_2, hfz221_0, hfz221_1, hfz221_2⟩ := c3_ BK241))
  refine bodyPost_ret (results_ct rfl _ _ gb241 24 #[.slice none 0 0, .bool false, .int .i64 0] (0, 0) _ rfl (bp_0 BK241) Try.underlying24 rfl (by kernel_rfl)) rfl ?_
  exact ⟨_, fz_, by first | exact Kd.R_nil _ _ _ _ _ | exact Kd.N_nil _ _ _ _ _ | exact Kd.V_nil _ _ _ _ _ | exact Kd.Q_nil _ _ _ _ _ | exact Kd.S_nil _ _ _ _ _, bl_3 HB GE239 GE240 GE241⟩


 rw [if_pos c4] at H
 have c4b0 : (t242 == 0) = true := beq_iff_eq.mpr c4
 have c4b1 : (t242 != 0) = false := bne_eq_false_iff_eq.mpr c4
 clear c4
 obtain ⟨t243, A50, H⟩ := Option.bind_eq_some_iff.mp H
 try dsimp only at H
 have A5 := a_ A50
 clear A50
 by_cases c6 : a0_1 = true
 ·subst c6
  have H1 : (some (t243, true, a0_2, 8)) = some (r1, r2, r3, r4) := by rw [if_pos rfl] at H; exact H
  clear H
  have H := H1
  clear H1
  simp only [Option.some.injEq, Prod.mk.injEq] at H
  obtain ⟨rfl, rfl, rfl, rfl⟩ := H
  go_enter Try.func96, Try.ntmps96
  go_wp2_with (first | ((with_reducible refine gd_ 2 ?_); refine bx_ 2 #[.slice A0_0 l0_0.length c0_0, .bool true, .int .i64 a0_2] 24 ?_; intro gb239 hg w7 hbox hb; have BK239 := a_ (hbox); have GE239 := a_ (bs_0 hg HB); replace HB := hB_ (bl_ HB) hb; clear hb hbox hg) | ((with_reducible refine gd_ 3 ?_); refine bx_ 3 #[.int .u8 a1_0, .string a1_1, .string a1_2, .string a1_3, .int .i64 a1_4] 115 ?_; intro gb240 hg w8 hbox hb; have BK240 := a_ (hbox); have GE240 := a_ (bs_1 hg HB GE239); replace HB := hB_ (bl_1 HB GE239) hb; have NB239_240 := nB_ hg BK239; have NB240_239 := nC_ hg BK239; replace BK239 := bB_ BK239 hb; clear hb hbox hg) | ((with_reducible refine gd_ 4 ?_); refine bx_ 4 #[.slice none 0 0, .bool false, .int .i64 0] 24 ?_; intro gb241 hg w9 hbox hb; have BK241 := a_ (hbox); have GE241 := a_ (bs_2 hg HB GE239 GE240); replace HB := hB_ (bl_2 HB GE239 GE240) hb; have NB239_241 := nB_ hg BK239; have NB241_239 := nC_ hg BK239; replace BK239 := bB_ BK239 hb; have NB240_241 := nB_ hg BK240; have NB241_240 := nC_ hg BK240; replace BK240 := bB_ BK240 hb; clear hb hbox hg; have hnb10 := NB239_240.out; have hnc10 := NB240_239.out; have hnb11 := NB239_241.out; have hnc11 := NB241_239.out; obtain ⟨hcz12_0, hcz12_1, hcz12_2, hfz12_0, hfz12_1, hfz12_2⟩ := c3_ BK239) | ((with_reducible refine gk_ 37 ?_); refine gl_ (some 15) Try.func37 #[.agg #[.slice A0_0 l0_0.length c0_0, .bool true, .int .i64 a0_2]] ?_; (with_reducible refine (disk_Check.calls k _ _ l0_0 true a0_2 t242 _ ?side1 ?side2 A3.out).mono ?_); (case side1 => exact cl_ (Kd.C_below HR0_0.out HB.out)); (case side2 => exact HC0_0.out); rintro e w13 ⟨rfl, hb⟩; refine ⟨_, rfl, ?_⟩; replace BK239 := bB_ BK239 hb; replace BK240 := bB_ BK240 hb; replace BK241 := bB_ BK241 hb; replace HB := hB_ (bl_3 HB GE239 GE240 GE241) hb; (try clear hb); obtain ⟨hcz14_0, hcz14_1, hcz14_2, hfz14_0, hfz14_1, hfz14_2⟩ := c3_ BK239) | ((with_reducible refine gk_ 48 ?_); refine gl_ (some 22) Try.func48 #[.slice A0_0 l0_0.length c0_0] ?_; (with_reducible refine (api_File_48.calls _ _ l0_0 t243 _ ?side1 ?side2 A5.out).mono ?_); (case side1 => exact cl_ (Kd.C_below HR0_0.out HB.out)); (case side2 => exact HC0_0.out); rintro e w15 ⟨v244, rfl, ho0, hb⟩; refine ⟨_, rfl, ?_⟩; have HO245 := a_ (Kd.R_lower ho0 (below_size (bl_3 HB GE239 GE240 GE241))); replace BK239 := bB_ BK239 hb; replace BK240 := bB_ BK240 hb; replace BK241 := bB_ BK241 hb; replace HB := hB_ (bl_3 HB GE239 GE240 GE241) hb; (try clear hb); (try clear ho0); obtain ⟨Ao16, co16, eo16⟩ := Kd.R_slice HO245.out; subst eo16; obtain ⟨hcz17_0, hcz17_1, hcz17_2, hfz17_0, hfz17_1, hfz17_2⟩ := c3_ BK239; have hnb18 := NB241_240.out; have hnc18 := NB240_241.out; obtain ⟨hcz19_0, hcz19_1, hcz19_2, hfz19_0, hfz19_1, hfz19_2⟩ := c3_ BK241))
  refine bodyPost_ret (results_ct rfl _ _ gb241 24 #[.slice Ao16 t243.length co16, .bool true, .int .i64 a0_2] (0, 0) _ rfl (bp_1 BK241 NB241_239) Try.underlying24 rfl (by kernel_rfl)) rfl ?_
  exact ⟨_, fz_, by refine rq_ ?_; exact Kd.R_mono (Kd.R_far (p := ⟨gb241, 2, none⟩) (Kd.R_far (p := ⟨gb241, 1, none⟩) (Kd.R_far (p := ⟨gb241, 0, none⟩) (Kd.R_far (p := ⟨gb239, 0, none⟩) (Kd.R_types (Kd.R_types HO245.out BK239.out (by decide)) BK241.out (by decide)) (fun _ hk => hk.1.2) (.slice Ao16 t243.length co16)) (fun _ hk => hk.2) (.slice Ao16 t243.length co16)) (fun _ hk => hk.2) (.bool true)) (fun _ hk => hk.2) (.int .i64 a0_2)) (fun _ hk => trivial), bl_3 HB GE239 GE240 GE241⟩
 replace c6 := Bool.eq_false_iff.mpr c6
 subst c6
 have H1 : ((disk_change_refused.f k a1_0 a1_1 a1_2 a1_3 a1_4 t243 false a0_2).bind fun t246 => (if t246 = 0 then ((disk_place.f k t243 false a0_2 a1_1).bind fun bt247 => (if a1_0 = 0 then (if bt247.2 = true then (if 0 ≤ bt247.1 then (if bt247.1 < (t243.length : Int) then (if ((rd_T71 t243 bt247.1).f1).size + a1_3.size ≤ 9223372036854775807 then (disk_done.j0 k bt247.1 (t243.set (bt247.1 : Int).toNat (⟨(rd_T71 t243 bt247.1).f0, ((rd_T71 t243 bt247.1).f1) ++ a1_3, (rd_T71 t243 bt247.1).f2⟩ : S71)) false a0_2 a1_0 a1_1 a1_2 a1_3 a1_4) else (none)) else (none)) else (none)) else ((api_File_108.f t243 bt247.1 (([(⟨a1_1, (⟨#[]⟩ : ByteArray), 0⟩ : S71)] : List (S71)))).bind fun t254 => (if 0 ≤ bt247.1 then (if bt247.1 < (t254.length : Int) then (if ((rd_T71 t254 bt247.1).f1).size + a1_3.size ≤ 9223372036854775807 then (disk_done.j0 k bt247.1 (t254.set (bt247.1 : Int).toNat (⟨(rd_T71 t254 bt247.1).f0, ((rd_T71 t254 bt247.1).f1) ++ a1_3, (rd_T71 t254 bt247.1).f2⟩ : S71)) false a0_2 a1_0 a1_1 a1_2 a1_3 a1_4) else (none)) else (none)) else (none)))) else (disk_done.j0 k bt247.1 t243 false a0_2 a1_0 a1_1 a1_2 a1_3 a1_4))) else (some (t243, false, a0_2, t246)))) = some (r1, r2, r3, r4) := by rw [if_neg (show ¬ (false = true) by decide)] at H; exact H
 clear H
 have H := H1
 clear H1
 obtain ⟨t246, A200, H⟩ := Option.bind_eq_some_iff.mp H
 try dsimp only at H
 have A20 := a_ A200
 clear A200
 by_cases c21 : t246 = 0
 rotate_left
 ·rw [if_neg c21] at H
  have c21b0 : (t246 == 0) = false := beq_eq_false_iff_ne.mpr c21
  have c21b1 : (t246 != 0) = true := bne_iff_ne.mpr c21
  simp only [Option.some.injEq, Prod.mk.injEq] at H
  obtain ⟨rfl, rfl, rfl, rfl⟩ := H
  go_enter Try.func96, Try.ntmps96
  go_wp2_with (first | ((with_reducible refine gd_ 2 ?_); refine bx_ 2 #[.slice A0_0 l0_0.length c0_0, .bool false, .int .i64 a0_2] 24 ?_; intro gb239 hg w197 hbox hb; have BK239 := a_ (hbox); have GE239 := a_ (bs_0 hg HB); replace HB := hB_ (bl_ HB) hb; clear hb hbox hg) | ((with_reducible refine gd_ 3 ?_); refine bx_ 3 #[.int .u8 a1_0, .string a1_1, .string a1_2, .string a1_3, .int .i64 a1_4] 115 ?_; intro gb240 hg w198 hbox hb; have BK240 := a_ (hbox); have GE240 := a_ (bs_1 hg HB GE239); replace HB := hB_ (bl_1 HB GE239) hb; have NB239_240 := nB_ hg BK239; have NB240_239 := nC_ hg BK239; replace BK239 := bB_ BK239 hb; clear hb hbox hg) | ((with_reducible refine gd_ 4 ?_); refine bx_ 4 #[.slice none 0 0, .bool false, .int .i64 0] 24 ?_; intro gb241 hg w199 hbox hb; have BK241 := a_ (hbox); have GE241 := a_ (bs_2 hg HB GE239 GE240); replace HB := hB_ (bl_2 HB GE239 GE240) hb; have NB239_241 := nB_ hg BK239; have NB241_239 := nC_ hg BK239; replace BK239 := bB_ BK239 hb; have NB240_241 := nB_ hg BK240; have NB241_240 := nC_ hg BK240; replace BK240 := bB_ BK240 hb; clear hb hbox hg; have hnb200 := NB239_240.out; have hnc200 := NB240_239.out; have hnb201 := NB239_241.out; have hnc201 := NB241_239.out; obtain ⟨hcz202_0, hcz202_1, hcz202_2, hfz202_0, hfz202_1, hfz202_2⟩ := c3_ BK239) | ((with_reducible refine gk_ 37 ?_); refine gl_ (some 15) Try.func37 #[.agg #[.slice A0_0 l0_0.length c0_0, .bool false, .int .i64 a0_2]] ?_; (with_reducible refine (disk_Check.calls k _ _ l0_0 false a0_2 t242 _ ?side1 ?side2 A3.out).mono ?_); (case side1 => exact cl_ (Kd.C_below HR0_0.out HB.out)); (case side2 => exact HC0_0.out); rintro e w203 ⟨rfl, hb⟩; refine ⟨_, rfl, ?_⟩; replace BK239 := bB_ BK239 hb; replace BK240 := bB_ BK240 hb; replace BK241 := bB_ BK241 hb; replace HB := hB_ (bl_3 HB GE239 GE240 GE241) hb; (try clear hb); obtain ⟨hcz204_0, hcz204_1, hcz204_2, hfz204_0, hfz204_1, hfz204_2⟩ := c3_ BK239) | ((with_reducible refine gk_ 48 ?_); refine gl_ (some 22) Try.func48 #[.slice A0_0 l0_0.length c0_0] ?_; (with_reducible refine (api_File_48.calls _ _ l0_0 t243 _ ?side1 ?side2 A5.out).mono ?_); (case side1 => exact cl_ (Kd.C_below HR0_0.out HB.out)); (case side2 => exact HC0_0.out); rintro e w205 ⟨v244, rfl, ho0, hb⟩; refine ⟨_, rfl, ?_⟩; have HO245 := a_ (Kd.R_lower ho0 (below_size (bl_3 HB GE239 GE240 GE241))); replace BK239 := bB_ BK239 hb; replace BK240 := bB_ BK240 hb; replace BK241 := bB_ BK241 hb; replace HB := hB_ (bl_3 HB GE239 GE240 GE241) hb; (try clear hb); (try clear ho0); obtain ⟨Ao206, co206, eo206⟩ := Kd.R_slice HO245.out; subst eo206; obtain ⟨hcz207_0, hcz207_1, hcz207_2, hfz207_0, hfz207_1, hfz207_2⟩ := c3_ BK239; have hnb208 := NB240_241.out; have hnc208 := NB241_240.out; obtain ⟨hcz209_0, hcz209_1, hcz209_2, hcz209_3, hcz209_4, hfz209_0, hfz209_1, hfz209_2, hfz209_3, hfz209_4⟩ := c5_ BK240) | ((with_reducible refine gk_ 107 ?_); refine gl_ (some 29) Try.func107 #[.agg #[.int .u8 a1_0, .string a1_1, .string a1_2, .string a1_3, .int .i64 a1_4], .agg #[.slice Ao206 t243.length co206, .bool false, .int .i64 a0_2]] ?_; (with_reducible refine (disk_change_refused.calls k a1_0 a1_1 a1_2 a1_3 a1_4 _ _ t243 false a0_2 t246 _ ?side1 ?side2 A20.out).mono ?_); (case side1 => refine (Kd.R_reads' (e := 71) (base := w.heap.size) (ok := fun k_ => True) (n := t243.length) (c := co206) ?_).2.2; exact (by refine rq_ ?_; exact (Kd.R_mono (Kd.R_far (p := ⟨gb239, 0, none⟩) (Kd.R_types HO245.out BK239.out (by decide)) (fun _ hk => hk.2) (.slice Ao206 t243.length co206)) (fun _ h_ => h_.1)))); (case side2 => exact (Kd.R_reads' HO245.out).2.1); rintro e w210 ⟨rfl, hb⟩; refine ⟨_, rfl, ?_⟩; replace HO245 := a_ (Kd.R_below (by refine rq_ ?_; exact (Kd.R_mono (Kd.R_far (p := ⟨gb239, 0, none⟩) (Kd.R_types HO245.out BK239.out (by decide)) (fun _ hk => hk.2) (.slice Ao206 t243.length co206)) (fun _ h_ => h_.1))) hb); replace BK239 := a_ (blk_below (g := gb239) (o := .cells #[.slice Ao206 t243.length co206, .bool false, .int .i64 a0_2] 24 (0, 0)) (bp_0 BK239) hb); replace BK240 := a_ (blk_below (g := gb240) (o := .cells #[.int .u8 a1_0, .string a1_1, .string a1_2, .string a1_3, .int .i64 a1_4] 115 (0, 0)) (bp_1 BK240 NB240_239) hb); replace BK241 := a_ (blk_below (g := gb241) (o := .cells #[.slice none 0 0, .bool false, .int .i64 0] 24 (0, 0)) (bp_1 BK241 NB241_239) hb); replace HB := hB_ (bl_3 HB GE239 GE240 GE241) hb; (try clear hb); obtain ⟨hcz211_0, hcz211_1, hcz211_2, hfz211_0, hfz211_1, hfz211_2⟩ := c3_ BK239; obtain ⟨hcz212_0, hcz212_1, hcz212_2, hfz212_0, hfz212_1, hfz212_2⟩ := c3_ BK241))
  refine bodyPost_ret (results_ct rfl _ _ gb241 24 #[.slice Ao206 t243.length co206, .bool false, .int .i64 a0_2] (0, 0) _ rfl (bp_0 BK241) Try.underlying24 rfl (by kernel_rfl)) rfl ?_
  exact ⟨_, fz_, by refine rq_ ?_; exact Kd.R_mono (Kd.R_far (p := ⟨gb241, 2, none⟩) (Kd.R_far (p := ⟨gb241, 1, none⟩) (Kd.R_far (p := ⟨gb241, 0, none⟩) (Kd.R_types HO245.out BK241.out (by decide)) (fun _ hk => hk.2) (.slice Ao206 t243.length co206)) (fun _ hk => hk.2) (.bool false)) (fun _ hk => hk.2) (.int .i64 a0_2)) (fun _ hk => trivial), bl_3 HB GE239 GE240 GE241⟩
 rw [if_pos c21] at H
 have c21b0 : (t246 == 0) = true := beq_iff_eq.mpr c21
 have c21b1 : (t246 != 0) = false := bne_eq_false_iff_eq.mpr c21
 clear c21
 obtain ⟨⟨t247, t248⟩, A220, H⟩ := Option.bind_eq_some_iff.mp H
 try dsimp only at H
 have A22 := a_ A220
 clear A220
 have HC23 := a_ H
 clear H
 go_enter Try.func96, Try.ntmps96
 go_upto_if 43 with (first | ((with_reducible refine gd_ 2 ?_); refine bx_ 2 #[.slice A0_0 l0_0.length c0_0, .bool false, .int .i64 a0_2] 24 ?_; intro gb239 hg w24 hbox hb; have BK239 := a_ (hbox); have GE239 := a_ (bs_0 hg HB); replace HB := hB_ (bl_ HB) hb; clear hb hbox hg) | ((with_reducible refine gd_ 3 ?_); refine bx_ 3 #[.int .u8 a1_0, .string a1_1, .string a1_2, .string a1_3, .int .i64 a1_4] 115 ?_; intro gb240 hg w25 hbox hb; have BK240 := a_ (hbox); have GE240 := a_ (bs_1 hg HB GE239); replace HB := hB_ (bl_1 HB GE239) hb; have NB239_240 := nB_ hg BK239; have NB240_239 := nC_ hg BK239; replace BK239 := bB_ BK239 hb; clear hb hbox hg) | ((with_reducible refine gd_ 4 ?_); refine bx_ 4 #[.slice none 0 0, .bool false, .int .i64 0] 24 ?_; intro gb241 hg w26 hbox hb; have BK241 := a_ (hbox); have GE241 := a_ (bs_2 hg HB GE239 GE240); replace HB := hB_ (bl_2 HB GE239 GE240) hb; have NB239_241 := nB_ hg BK239; have NB241_239 := nC_ hg BK239; replace BK239 := bB_ BK239 hb; have NB240_241 := nB_ hg BK240; have NB241_240 := nC_ hg BK240; replace BK240 := bB_ BK240 hb; clear hb hbox hg; have hnb27 := NB239_240.out; have hnc27 := NB240_239.out; have hnb28 := NB239_241.out; have hnc28 := NB241_239.out; obtain ⟨hcz29_0, hcz29_1, hcz29_2, hfz29_0, hfz29_1, hfz29_2⟩ := c3_ BK239) | ((with_reducible refine gk_ 37 ?_); refine gl_ (some 15) Try.func37 #[.agg #[.slice A0_0 l0_0.length c0_0, .bool false, .int .i64 a0_2]] ?_; (with_reducible refine (disk_Check.calls k _ _ l0_0 false a0_2 t242 _ ?side1 ?side2 A3.out).mono ?_); (case side1 => exact cl_ (Kd.C_below HR0_0.out HB.out)); (case side2 => exact HC0_0.out); rintro e w30 ⟨rfl, hb⟩; refine ⟨_, rfl, ?_⟩; replace BK239 := bB_ BK239 hb; replace BK240 := bB_ BK240 hb; replace BK241 := bB_ BK241 hb; replace HB := hB_ (bl_3 HB GE239 GE240 GE241) hb; (try clear hb); obtain ⟨hcz31_0, hcz31_1, hcz31_2, hfz31_0, hfz31_1, hfz31_2⟩ := c3_ BK239) | ((with_reducible refine gk_ 48 ?_); refine gl_ (some 22) Try.func48 #[.slice A0_0 l0_0.length c0_0] ?_; (with_reducible refine (api_File_48.calls _ _ l0_0 t243 _ ?side1 ?side2 A5.out).mono ?_); (case side1 => exact cl_ (Kd.C_below HR0_0.out HB.out)); (case side2 => exact HC0_0.out); rintro e w32 ⟨v244, rfl, ho0, hb⟩; refine ⟨_, rfl, ?_⟩; have HO245 := a_ (Kd.R_lower ho0 (below_size (bl_3 HB GE239 GE240 GE241))); replace BK239 := bB_ BK239 hb; replace BK240 := bB_ BK240 hb; replace BK241 := bB_ BK241 hb; replace HB := hB_ (bl_3 HB GE239 GE240 GE241) hb; (try clear hb); (try clear ho0); obtain ⟨Ao33, co33, eo33⟩ := Kd.R_slice HO245.out; subst eo33; obtain ⟨hcz34_0, hcz34_1, hcz34_2, hfz34_0, hfz34_1, hfz34_2⟩ := c3_ BK239; have hnb35 := NB240_241.out; have hnc35 := NB241_240.out; obtain ⟨hcz36_0, hcz36_1, hcz36_2, hcz36_3, hcz36_4, hfz36_0, hfz36_1, hfz36_2, hfz36_3, hfz36_4⟩ := c5_ BK240) | ((with_reducible refine gk_ 107 ?_); refine gl_ (some 29) Try.func107 #[.agg #[.int .u8 a1_0, .string a1_1, .string a1_2, .string a1_3, .int .i64 a1_4], .agg #[.slice Ao33 t243.length co33, .bool false, .int .i64 a0_2]] ?_; (with_reducible refine (disk_change_refused.calls k a1_0 a1_1 a1_2 a1_3 a1_4 _ _ t243 false a0_2 t246 _ ?side1 ?side2 A20.out).mono ?_); (case side1 => refine (Kd.R_reads' (e := 71) (base := w.heap.size) (ok := fun k_ => True) (n := t243.length) (c := co33) ?_).2.2; exact (by refine rq_ ?_; exact (Kd.R_mono (Kd.R_far (p := ⟨gb239, 0, none⟩) (Kd.R_types HO245.out BK239.out (by decide)) (fun _ hk => hk.2) (.slice Ao33 t243.length co33)) (fun _ h_ => h_.1)))); (case side2 => exact (Kd.R_reads' HO245.out).2.1); rintro e w37 ⟨rfl, hb⟩; refine ⟨_, rfl, ?_⟩; replace HO245 := a_ (Kd.R_below (by refine rq_ ?_; exact (Kd.R_mono (Kd.R_far (p := ⟨gb239, 0, none⟩) (Kd.R_types HO245.out BK239.out (by decide)) (fun _ hk => hk.2) (.slice Ao33 t243.length co33)) (fun _ h_ => h_.1))) hb); replace BK239 := a_ (blk_below (g := gb239) (o := .cells #[.slice Ao33 t243.length co33, .bool false, .int .i64 a0_2] 24 (0, 0)) (bp_0 BK239) hb); replace BK240 := a_ (blk_below (g := gb240) (o := .cells #[.int .u8 a1_0, .string a1_1, .string a1_2, .string a1_3, .int .i64 a1_4] 115 (0, 0)) (bp_1 BK240 NB240_239) hb); replace BK241 := a_ (blk_below (g := gb241) (o := .cells #[.slice none 0 0, .bool false, .int .i64 0] 24 (0, 0)) (bp_1 BK241 NB241_239) hb); replace HB := hB_ (bl_3 HB GE239 GE240 GE241) hb; (try clear hb); obtain ⟨hcz38_0, hcz38_1, hcz38_2, hfz38_0, hfz38_1, hfz38_2⟩ := c3_ BK239; obtain ⟨hcz39_0, hcz39_1, hcz39_2, hcz39_3, hcz39_4, hfz39_0, hfz39_1, hfz39_2, hfz39_3, hfz39_4⟩ := c5_ BK240) | ((with_reducible refine gk_ 50 ?_); refine gl_ (some 38) Try.func50 #[.agg #[.slice Ao33 t243.length co33, .bool false, .int .i64 a0_2], .string a1_1] ?_; (with_reducible refine (disk_place.calls k _ _ t243 false a0_2 a1_1 t247 t248 _ ?side1 ?side2 A22.out).mono ?_); (case side1 => exact cl_ ((Kd.R_reads' HO245.out).2.2)); (case side2 => exact (Kd.R_reads' HO245.out).2.1); rintro e w40 ⟨rfl, hb⟩; refine ⟨_, rfl, ?_⟩; replace HO245 := a_ (Kd.R_below (by refine rq_ ?_; exact HO245.out) hb); replace BK239 := bB_ BK239 hb; replace BK240 := bB_ BK240 hb; replace BK241 := bB_ BK241 hb; replace HB := hB_ (bl_3 HB GE239 GE240 GE241) hb; (try clear hb); obtain ⟨hcz41_0, hcz41_1, hcz41_2, hcz41_3, hcz41_4, hfz41_0, hfz41_1, hfz41_2, hfz41_3, hfz41_4⟩ := c5_ BK240))
 (try simp only [Act.put, List.setIfInBounds_toArray, List.set_cons_zero, List.set_cons_succ])
 go_cut [] (fun wc => ∃ (kq : Nat) (x240000_22 : List (S71)) (u240000 : Value), Aside0 (disk_done.j0 kq t247 x240000_22 false a0_2 a1_0 a1_1 a1_2 a1_3 a1_4 = some (r1, r2, r3, r4)) ∧ Aside0 (kq ≤ k) ∧ Aside0 (Kd.R k71 71 wc w.heap.size (fun _ => True) u240000 x240000_22) ∧ Aside0 (wc.heap[gb239]? = some (.cells #[u240000, .bool false, .int .i64 a0_2] 24 (0, 0))) ∧ Aside0 (wc.heap[gb240]? = some (.cells #[.int .u8 a1_0, .string a1_1, .string a1_2, .string a1_3, .int .i64 a1_4] 115 (0, 0))) ∧ Aside0 (wc.heap[gb241]? = some (.cells #[(.slice none 0 0), .bool false, .int .i64 0] 24 (0, 0))) ∧ Aside0 (Below w.heap.size w wc))
 case first =>
  have H := HC23.out
  clear HC23
  by_cases c42 : a1_0 = 0
  rotate_left
  ·rw [if_neg c42] at H
   have c42b0 : (a1_0 == 0) = false := beq_eq_false_iff_ne.mpr c42
   have c42b1 : (a1_0 != 0) = true := bne_iff_ne.mpr c42
   (first | rw [c42b0] | (simp only [i64_w, i32_w]; rw [c42b0]) | skip)
   have H' := a_ H
   clear H
   go_wp2
   go_meet
   case rel => exact ⟨_, (t243), (.slice Ao33 t243.length co33), H', ⟨by first | omega | exact Nat.le_refl _⟩, ⟨by refine rq_ ?_; exact HO245.out⟩, ⟨bk_ BK239⟩, ⟨bk_ BK240⟩, ⟨bk_ BK241⟩, ⟨bl_3 HB GE239 GE240 GE241⟩⟩
  rw [if_pos c42] at H
  have c42b0 : (a1_0 == 0) = true := beq_iff_eq.mpr c42
  have c42b1 : (a1_0 != 0) = false := bne_eq_false_iff_eq.mpr c42
  clear c42
  (first | rw [c42b0] | (simp only [i64_w, i32_w]; rw [c42b0]) | skip)
  by_cases c43 : t248 = true
  ·subst c43
   have H1 : (if 0 ≤ t247 then (if t247 < (t243.length : Int) then (if ((rd_T71 t243 t247).f1).size + a1_3.size ≤ 9223372036854775807 then (disk_done.j0 k t247 (t243.set (t247 : Int).toNat (⟨(rd_T71 t243 t247).f0, ((rd_T71 t243 t247).f1) ++ a1_3, (rd_T71 t243 t247).f2⟩ : S71)) false a0_2 a1_0 a1_1 a1_2 a1_3 a1_4) else (none)) else (none)) else (none)) = some (r1, r2, r3, r4) := by rw [if_pos rfl] at H; exact H
   clear H
   have H := H1
   clear H1
   by_cases c44 : 0 ≤ t247
   rotate_left
   ·rw [if_neg c44] at H
    exact absurd H (by simp)
   rw [if_pos c44] at H
   have c44b0 : decide (0 ≤ t247) = true := decide_eq_true c44
   clear c44
   by_cases c45 : t247 < (t243.length : Int)
   rotate_left
   ·rw [if_neg c45] at H
    exact absurd H (by simp)
   rw [if_pos c45] at H
   have c45b0 : decide (t247 < (t243.length : Int)) = true := decide_eq_true c45
   clear c45
   by_cases c46 : ((rd_T71 t243 t247).f1).size + a1_3.size ≤ 9223372036854775807
   rotate_left
   ·rw [if_neg c46] at H
    exact absurd H (by simp)
   rw [if_pos c46] at H
   have c46b0 := eq_true c46
   have c46b1 : decide (((rd_T71 t243 t247).f1).size + a1_3.size ≤ 9223372036854775807) = true := decide_eq_true c46
   try have c46b2 : (9223372036854775807 < ((rd_T71 t243 t247).f1).size + a1_3.size) = False := eq_false (Nat.not_lt.2 c46)
   clear c46
   obtain ⟨y250, hy250⟩ : ∃ y_ : List (S71), y_ = (t243.set (t247 : Int).toNat (⟨(rd_T71 t243 t247).f0, ((rd_T71 t243 t247).f1) ++ a1_3, (rd_T71 t243 t247).f2⟩ : S71)) := ⟨_, rfl⟩
   replace H : (disk_done.j0 k t247 y250 false a0_2 a1_0 a1_1 a1_2 a1_3 a1_4) = some (r1, r2, r3, r4) := by first | (rw [hy250]; with_reducible exact H) | (have H2_ := (Option.bind_some _ _).symm.trans H; rw [hy250]; with_reducible exact H2_) | (have H2_ := (Option.bind_some _ _).symm.trans H; with_reducible exact H2_) | with_reducible exact H | (rw [hy250]; exact H) | exact H
   have Ny250 := a_ hy250
   clear hy250
   have H' := a_ H
   clear H
   try go_wp2
   have n0_ := a_ (Kd.R_drew HO245.out)
   have n1_ := a_ (blk_drew BK239.out)
   have n2_ := a_ (blk_drew BK240.out)
   have n3_ := a_ (blk_drew BK241.out)
   have n4_ := a_ (below_drew1 HB.out)
   clear HO245
   clear BK239
   clear BK240
   clear BK241
   clear HB
   have HO245 := n0_
   have BK239 := n1_
   have BK240 := n2_
   have BK241 := n3_
   have HB := n4_
   clear n0_ n1_ n2_ n3_ n4_
   have p249 : 0 ≤ (t247 : Int) := od_
   have q249 : t247 < (t243.length : Int) := od_
   obtain ⟨ad249, e249, hx249_0, hx249_1, hx249_2⟩ := at_T71 (Kd.R_reads' HO245.out).2.2 t247 p249 q249
   cases e249
   replace p249 := eq_true p249
   replace q249 := eq_true q249
   have p47 : 0 ≤ (t247 : Int) := od_
   have q47 : (t247 : Int) < ((t243.length : Int) : Int) := od_
   obtain ⟨go47, co47, eo47, gb47, gl47, cl47, HG47⟩ := Kd.R_form HO245.out (by omega)
   (first | cases eo47 | (injection eo47 with ea_ en_ ec_; (first | subst ea_ | (injection ea_ with ea_; subst ea_)); subst ec_; clear en_))
   have GB47 := a_ gb47
   have GG47 := a_ HG47
   clear gb47 gl47 HG47
   (first | simp only [add_plain] at hx249_0 | skip)
   (first | simp only [add_plain] at hx249_1 | skip)
   (first | simp only [add_plain] at hx249_2 | skip)
   obtain ⟨ce47, hcl47, hM47, hcc47, hfr47⟩ := Kd.R_elem HO245.out z71 (t247 : Int) p47 q47
   obtain rfl := k71_openM hM47
   have hx47_0 : World.cell? _ ⟨go47, (t247 : Int).toNat * 3, none⟩ = some (.string ((rd_T71 t243 t247).f0)) := hcc47 0 _ rfl
   have hx47_1 : World.cell? _ ⟨go47, (t247 : Int).toNat * 3 + 1, none⟩ = some (.string ((rd_T71 t243 t247).f1)) := hcc47 1 _ rfl
   have hx47_2 : World.cell? _ ⟨go47, (t247 : Int).toNat * 3 + 2, none⟩ = some (.int .i64 ((rd_T71 t243 t247).f2)) := hcc47 2 _ rfl
   have hf47_0 : World.frozen? _ ⟨go47, (t247 : Int).toNat * 3, none⟩ = false := hfr47 0
   have hf47_1 : World.frozen? _ ⟨go47, (t247 : Int).toNat * 3 + 1, none⟩ = false := hfr47 1
   have hf47_2 : World.frozen? _ ⟨go47, (t247 : Int).toNat * 3 + 2, none⟩ = false := hfr47 2
   clear hcl47 hcc47 hfr47 hM47
   replace p47 := eq_true p47
   replace q47 := eq_true q47
   obtain ⟨ce49, hcl49, hM49, hcc49, hfr49⟩ := Kd.R_elem HO245.out z71 (t247 : Int) od_ (by have h_ : (t247 : Int) < ((t243.length : Int) : Int) := od_; first | exact h_ | (have e_ := (Kd.R_reads' HO245.out).1; omega) | simpa using h_)
   obtain rfl := k71_openM hM49
   have HP49 := (Kd.R_seg HO245.out (t247 : Int) od_ (by have h_ : (t247 : Int) < ((t243.length : Int) : Int) := od_; first | exact h_ | (have e_ := (Kd.R_reads' HO245.out).1; omega) | simpa using h_) (seg := [.string (((rd_T71 t243 t247).f1) ++ a1_3)]) (j := 1) hcl49 hcc49 (show 2 ≤ 3 from by decide) (x' := (⟨(rd_T71 t243 t247).f0, ((rd_T71 t243 t247).f1) ++ a1_3, (rd_T71 t243 t247).f2⟩ : S71)) (k71_mkM _ _ _ (⟨(rd_T71 t243 t247).f0, ((rd_T71 t243 t247).f1) ++ a1_3, (rd_T71 t243 t247).f2⟩ : S71) ) (fun _ hk => hk)).1
   rw [← Ny250.out] at HP49
   have HQ49 := a_ HP49
   clear hcl49 hcc49 hfr49 hM49 HP49
   refine start_ (n := 12) (S := fun w' => w'.cell? ⟨gb239, 0, none⟩ = some (.slice (some ⟨go47, 0, none⟩) t243.length co33) ∧ w'.cell? ⟨gb239, 1, none⟩ = some (.bool false) ∧ w'.cell? ⟨gb239, 2, none⟩ = some (.int .i64 a0_2) ∧ w'.cell? ⟨gb240, 0, none⟩ = some (.int .u8 a1_0) ∧ w'.cell? ⟨gb240, 1, none⟩ = some (.string a1_1) ∧ w'.cell? ⟨gb240, 2, none⟩ = some (.string a1_2) ∧ w'.cell? ⟨gb240, 3, none⟩ = some (.string a1_3) ∧ w'.cell? ⟨gb240, 4, none⟩ = some (.int .i64 a1_4) ∧ w'.cell? ⟨go47, ((t247).toNat * 3), none⟩ = some (.string ((rd_T71 t243 t247).f0)) ∧ w'.cell? ⟨go47, ((t247).toNat * 3) + 1, none⟩ = some (.string ((rd_T71 t243 t247).f1)) ∧ w'.cell? ⟨go47, ((t247).toNat * 3) + 2, none⟩ = some (.int .i64 ((rd_T71 t243 t247).f2))) (ds := [11]) #[false, false, false, false, false, false, false, false, false, false, false, false] (by kernel_rfl) rfl rfl ⟨(blk_cell BK239.out 0).trans rfl, (blk_cell BK239.out 1).trans rfl, (blk_cell BK239.out 2).trans rfl, (blk_cell BK240.out 0).trans rfl, (blk_cell BK240.out 1).trans rfl, (blk_cell BK240.out 2).trans rfl, (blk_cell BK240.out 3).trans rfl, (blk_cell BK240.out 4).trans rfl, hx249_0, hx249_1, hx249_2⟩ (fun hHeld => ?_); refine with_tabW disk_done.tab14 disk_done.bits14 (fun HT_ HW_ => ?_)
   generalize w40.drew = w48 at HO245 BK239 BK240 BK241 HB GG47 HQ49 hf47_0 hf47_1 hf47_2 hx249_0 hx249_1 hx249_2 hx47_0 hx47_1 hx47_2 hHeld ⊢
   refine pu_ HT_ 0 (some 55) ?_
   refine pu_ HT_ 2 (some 57) ?_
   refine pu_ HT_ 6 (some 61) ?_
   refine take_ (i := 1) (N := some 56) (v := ?_) (a' := ?_) #[true, true, true, false, false, false, true, false, false, false, false, false] rfl rfl (take_ofW HT_.out HW_.out (by kernel_rfl)) (fun _ _ _ h => h) (Or.inl ⟨by rfl, ?_⟩) hHeld ?_ ?_
   rotate_left
   ·rintro w' ⟨s0, s1, s2, s3, s4, s5, s6, s7, s8, s9, s10⟩
    go_simp
    with_reducible rfl
   rotate_left
   ·exact ap_
   refine pu_ HT_ 3 (some 58) ?_
   refine pu_ HT_ 4 (some 59) ?_
   refine take_ (i := 5) (N := some 60) (v := ?_) (a' := ?_) #[true, true, true, true, true, true, true, false, false, false, false, false] rfl rfl (take_ofW HT_.out HW_.out (by kernel_rfl)) (fun _ _ _ h => h) (Or.inl ⟨by rfl, ?_⟩) hHeld ?_ ?_
   rotate_left
   ·rintro w' ⟨s0, s1, s2, s3, s4, s5, s6, s7, s8, s9, s10⟩
    go_simp
    with_reducible rfl
   rotate_left
   ·exact ap_
   refine take_ (i := 7) (N := some 62) (v := ?_) (a' := ?_) #[true, true, true, true, true, true, true, true, false, false, false, false] rfl rfl (take_ofW HT_.out HW_.out (by kernel_rfl)) (fun _ _ _ h => h) (Or.inl ⟨by rfl, ?_⟩) hHeld ?_ ?_
   rotate_left
   ·rintro w' ⟨s0, s1, s2, s3, s4, s5, s6, s7, s8, s9, s10⟩
    go_simp
    with_reducible rfl
   rotate_left
   ·exact ap_
   refine pu_ HT_ 8 (some 63) ?_
   refine pu_ HT_ 9 (some 64) ?_
   refine pu_ HT_ 10 (some 65) ?_
   refine last_ (i := 11) (N := none) #[true, true, true, true, true, true, true, true, true, true, true, true] rfl rfl (one_of HT_.out (by kernel_rfl)) (by decide) (fun K hK => ?_)
   refine skip_ (w1 := ?_) (by rfl) rfl ?_ ?_
   rotate_left
   ·go_simp
    rfl
   refine hK.out _ _ ?_
   clear hK K
   refine done_ (done_of HT_.out (by kernel_rfl)) ?_
   try go_wp2
   go_meet
   case rel => exact ⟨_, (y250), (.slice (some ⟨go47, 0, none⟩) t243.length co33), H', ⟨by first | omega | exact Nat.le_refl _⟩, ⟨by refine rq_ ?_; exact HQ49.out⟩, ⟨by refine bq_ ?_; refine blk_far ?_ (by have h_ := Kd.R_ne HO245.out BK239.out (by decide); intro e_; exact h_ (by rw [e_]; rfl)) _; refine bq_ ?_; exact BK239.out⟩, ⟨by refine bq_ ?_; refine blk_far ?_ (by have h_ := Kd.R_ne HO245.out BK240.out (by decide); intro e_; exact h_ (by rw [e_]; rfl)) _; refine bq_ ?_; exact BK240.out⟩, ⟨by refine bq_ ?_; refine blk_far ?_ (by have h_ := Kd.R_ne HO245.out BK241.out (by decide); intro e_; exact h_ (by rw [e_]; rfl)) _; refine bq_ ?_; exact BK241.out⟩, ⟨bl_4 HB GB47 GE239 GE240 GE241⟩⟩
  replace c43 := Bool.eq_false_iff.mpr c43
  subst c43
  have H1 : ((api_File_108.f t243 t247 (([(⟨a1_1, (⟨#[]⟩ : ByteArray), 0⟩ : S71)] : List (S71)))).bind fun t254 => (if 0 ≤ t247 then (if t247 < (t254.length : Int) then (if ((rd_T71 t254 t247).f1).size + a1_3.size ≤ 9223372036854775807 then (disk_done.j0 k t247 (t254.set (t247 : Int).toNat (⟨(rd_T71 t254 t247).f0, ((rd_T71 t254 t247).f1) ++ a1_3, (rd_T71 t254 t247).f2⟩ : S71)) false a0_2 a1_0 a1_1 a1_2 a1_3 a1_4) else (none)) else (none)) else (none))) = some (r1, r2, r3, r4) := by rw [if_neg (show ¬ (false = true) by decide)] at H; exact H
  clear H
  have H := H1
  clear H1
  obtain ⟨y251, hy251⟩ : ∃ y_ : List (S71), y_ = (([(⟨a1_1, (⟨#[]⟩ : ByteArray), 0⟩ : S71)] : List (S71))) := ⟨_, rfl⟩
  replace H : ((api_File_108.f t243 t247 y251).bind fun t254 => (if 0 ≤ t247 then (if t247 < (t254.length : Int) then (if ((rd_T71 t254 t247).f1).size + a1_3.size ≤ 9223372036854775807 then (disk_done.j0 k t247 (t254.set (t247 : Int).toNat (⟨(rd_T71 t254 t247).f0, ((rd_T71 t254 t247).f1) ++ a1_3, (rd_T71 t254 t247).f2⟩ : S71)) false a0_2 a1_0 a1_1 a1_2 a1_3 a1_4) else (none)) else (none)) else (none))) = some (r1, r2, r3, r4) := by first | (rw [hy251]; with_reducible exact H) | (have H2_ := (Option.bind_some _ _).symm.trans H; rw [hy251]; with_reducible exact H2_) | (have H2_ := (Option.bind_some _ _).symm.trans H; with_reducible exact H2_) | with_reducible exact H | (rw [hy251]; exact H) | exact H
  have Ny251 := a_ hy251
  clear hy251
  obtain ⟨t254, A500, H⟩ := Option.bind_eq_some_iff.mp H
  try dsimp only at H
  have A50 := a_ A500
  clear A500
  by_cases c51 : 0 ≤ t247
  rotate_left
  ·rw [if_neg c51] at H
   exact absurd H (by simp)
  rw [if_pos c51] at H
  have c51b0 : decide (0 ≤ t247) = true := decide_eq_true c51
  clear c51
  by_cases c52 : t247 < (t254.length : Int)
  rotate_left
  ·rw [if_neg c52] at H
   exact absurd H (by simp)
  rw [if_pos c52] at H
  have c52b0 : decide (t247 < (t254.length : Int)) = true := decide_eq_true c52
  clear c52
  by_cases c53 : ((rd_T71 t254 t247).f1).size + a1_3.size ≤ 9223372036854775807
  rotate_left
  ·rw [if_neg c53] at H
   exact absurd H (by simp)
  rw [if_pos c53] at H
  have c53b0 := eq_true c53
  have c53b1 : decide (((rd_T71 t254 t247).f1).size + a1_3.size ≤ 9223372036854775807) = true := decide_eq_true c53
  try have c53b2 : (9223372036854775807 < ((rd_T71 t254 t247).f1).size + a1_3.size) = False := eq_false (Nat.not_lt.2 c53)
  clear c53
  obtain ⟨y258, hy258⟩ : ∃ y_ : List (S71), y_ = (t254.set (t247 : Int).toNat (⟨(rd_T71 t254 t247).f0, ((rd_T71 t254 t247).f1) ++ a1_3, (rd_T71 t254 t247).f2⟩ : S71)) := ⟨_, rfl⟩
  replace H : (disk_done.j0 k t247 y258 false a0_2 a1_0 a1_1 a1_2 a1_3 a1_4) = some (r1, r2, r3, r4) := by first | (rw [hy258]; with_reducible exact H) | (have H2_ := (Option.bind_some _ _).symm.trans H; rw [hy258]; with_reducible exact H2_) | (have H2_ := (Option.bind_some _ _).symm.trans H; with_reducible exact H2_) | with_reducible exact H | (rw [hy258]; exact H) | exact H
  have Ny258 := a_ hy258
  clear hy258
  have H' := a_ H
  clear H
  have hnb55 := NB239_240.out
  have hnc55 := NB240_239.out
  have hnb56 := NB239_241.out
  have hnc56 := NB241_239.out
  obtain ⟨hcz57_0, hcz57_1, hcz57_2, hfz57_0, hfz57_1, hfz57_2⟩ := c3_ BK239
  have hnb58 := NB240_241.out
  have hnc58 := NB241_240.out
  obtain ⟨hcz59_0, hcz59_1, hcz59_2, hcz59_3, hcz59_4, hfz59_0, hfz59_1, hfz59_2, hfz59_3, hfz59_4⟩ := c5_ BK240
  try go_wp2_with (first | ((with_reducible refine gd_ 52 ?_); refine Kd.R_lit k71 _ 71 ?hg (N := 52) ?hd (xs := ([(⟨a1_1, (⟨#[]⟩ : ByteArray), 0⟩ : S71)] : List (S71))) (inner := [.string a1_1, .string (⟨#[]⟩ : ByteArray), .int .i64 0]) (ok := fun _ => True) (okp := fun _ => True) ?hr ?hp (fun _ hk => hk) trivial (Below.refl _ _) (Nat.le_refl _) (by simp) ?_; (case hd => rfl); (case hg => rfl); (case hr => first | (go_simp; done) | (go_simp; rfl)); (case hp => exact (Reps.c3 (show Kd.M k71 _ _ _ (⟨a1_1, (⟨#[]⟩ : ByteArray), 0⟩ : S71) [.string a1_1, .string (⟨#[]⟩ : ByteArray), .int .i64 0] from (k71_mkM _ _ _ (⟨a1_1, (⟨#[]⟩ : ByteArray), 0⟩ : S71) )) (Reps.none _ _))); intro v252 w60 ho61 hb hg_ hnew_; clear hg_ hnew_; (first | rw [← Ny251.out] at ho61 | (simp only [Int.reduceToNat] at ho61; rw [← Ny251.out] at ho61)); have HO253 := a_ (Kd.R_lower (Kd.R_new' ho61 (Kd.R_lt (by refine rq_ ?_; exact HO245.out))) (below_size (bl_3 HB GE239 GE240 GE241))); replace HO245 := a_ (Kd.R_elder' (by refine rq_ ?_; exact HO245.out) (Kd.R_base ho61) hb); replace BK239 := bB_ BK239 hb; replace BK240 := bB_ BK240 hb; replace BK241 := bB_ BK241 hb; replace HB := hB_ (bl_3 HB GE239 GE240 GE241) hb; clear hb ho61; obtain ⟨Ao62, co62, eo62⟩ := Kd.R_slice HO253.out; subst eo62) | ((with_reducible refine gk_ 108 ?_); refine gl_ (some 53) Try.func108 #[.slice Ao33 t243.length co33, .int .i64 t247, .slice Ao62 y251.length co62] ?_; (with_reducible refine (api_File_108.calls (fun k_ => some k_ = (.slice Ao33 t243.length co33 : Value).ownBlock) (.slice Ao33 t243.length co33) t243 t247 (fun k_ => some k_ = (.slice Ao62 y251.length co62 : Value).ownBlock) (.slice Ao62 y251.length co62) y251 t254 w _ ?side1 ?side2 ?side3 ?side4 ?side5 A50.out).mono ?_); (case side1 => repeat (first | (with_reducible first | exact HB.out | apply below_alloc | apply pw_below_drewN | apply below_drew1 | refine below_set ?_ GE239.out | refine below_set ?_ GE240.out | refine below_set ?_ GE241.out) | exact HB.out)); (case side2 => exact Kd.R_tight rfl HO245.out); (case side3 => exact fun k_ e_ => (HO245.out.1 k_ e_.symm).2); (case side4 => exact Kd.R_tight rfl HO253.out); (case side5 => exact fun k_ e_ => (HO253.out.1 k_ e_.symm).2); rintro e w63 ⟨v255, rfl, ho0, hb, hkp⟩; refine ⟨_, rfl, ?_⟩; replace BK239 := a_ (blk_kept (bk_ BK239) hkp (fun hs_ => Or.elim hs_ (fun e_ => (fun e_ => (Kd.R_ne HO245.out BK239.out (by decide)) e_) e_) (fun e_ => (fun e_ => (Kd.R_ne HO253.out BK239.out (by decide)) e_) e_))); replace BK240 := a_ (blk_kept (bk_ BK240) hkp (fun hs_ => Or.elim hs_ (fun e_ => (fun e_ => (Kd.R_ne HO245.out BK240.out (by decide)) e_) e_) (fun e_ => (fun e_ => (Kd.R_ne HO253.out BK240.out (by decide)) e_) e_))); replace BK241 := a_ (blk_kept (bk_ BK241) hkp (fun hs_ => Or.elim hs_ (fun e_ => (fun e_ => (Kd.R_ne HO245.out BK241.out (by decide)) e_) e_) (fun e_ => (fun e_ => (Kd.R_ne HO253.out BK241.out (by decide)) e_) e_))); have HO256 := a_ (Kd.R_mono (ok' := fun k_ => True) ho0 (fun k_ hk_ => trivial)); replace HB := a_ (hb); clear HO245; clear HO253; (try clear hb); (try clear hkp); (try clear ho0); obtain ⟨Ao64, co64, eo64⟩ := Kd.R_slice HO256.out; subst eo64; obtain ⟨hcz65_0, hcz65_1, hcz65_2, hfz65_0, hfz65_1, hfz65_2⟩ := c3_ BK239))
  have n0_ : Aside0 (Kd.R k71 71 (w63.setCell ⟨gb239, 0, none⟩ (.slice Ao64 t254.length co64)) w.heap.size (fun _ => True) (.slice Ao64 t254.length co64) t254) := ⟨by refine rq_ ?_; exact Kd.R_mono (Kd.R_far (p := ⟨gb239, 0, none⟩) (Kd.R_types HO256.out BK239.out (by decide)) (fun _ hk => hk.2) (.slice Ao64 t254.length co64)) (fun _ hk => trivial)⟩
  have n1_ : Aside0 ((w63.setCell ⟨gb239, 0, none⟩ (.slice Ao64 t254.length co64)).heap[gb239]? = some (.cells #[.slice Ao64 t254.length co64, .bool false, .int .i64 a0_2] 24 (0, 0))) := ⟨by refine bq_ ?_; refine blk_put (cs := #[.slice Ao33 t243.length co33, .bool false, .int .i64 a0_2]) ?_ 0 _ rfl; refine bq_ ?_; exact BK239.out⟩
  have n2_ : Aside0 ((w63.setCell ⟨gb239, 0, none⟩ (.slice Ao64 t254.length co64)).heap[gb240]? = some (.cells #[.int .u8 a1_0, .string a1_1, .string a1_2, .string a1_3, .int .i64 a1_4] 115 (0, 0))) := ⟨by refine bq_ ?_; refine blk_far ?_ NB240_239.out _; refine bq_ ?_; exact BK240.out⟩
  have n3_ : Aside0 ((w63.setCell ⟨gb239, 0, none⟩ (.slice Ao64 t254.length co64)).heap[gb241]? = some (.cells #[.slice none 0 0, .bool false, .int .i64 0] 24 (0, 0))) := ⟨by refine bq_ ?_; refine blk_far ?_ NB241_239.out _; refine bq_ ?_; exact BK241.out⟩
  have n4_ : Aside0 (Below w.heap.size w (w63.setCell ⟨gb239, 0, none⟩ (.slice Ao64 t254.length co64))) := ⟨bl_3 HB GE239 GE240 GE241⟩
  (try clear HO256)
  (try clear BK239)
  (try clear BK240)
  (try clear BK241)
  (try clear HB)
  generalize (w63.setCell ⟨gb239, 0, none⟩ (.slice Ao64 t254.length co64)) = w66 at n0_ n1_ n2_ n3_ n4_ ⊢
  have HO256 := n0_
  have BK239 := n1_
  have BK240 := n2_
  have BK241 := n3_
  have HB := n4_
  clear n0_ n1_ n2_ n3_ n4_
  have n0_ := a_ (Kd.R_drew HO256.out)
  have n1_ := a_ (blk_drew BK239.out)
  have n2_ := a_ (blk_drew BK240.out)
  have n3_ := a_ (blk_drew BK241.out)
  have n4_ := a_ (below_drew1 HB.out)
  clear HO256
  clear BK239
  clear BK240
  clear BK241
  clear HB
  have HO256 := n0_
  have BK239 := n1_
  have BK240 := n2_
  have BK241 := n3_
  have HB := n4_
  clear n0_ n1_ n2_ n3_ n4_
  have p257 : 0 ≤ (t247 : Int) := od_
  have q257 : t247 < (t254.length : Int) := od_
  obtain ⟨ad257, e257, hx257_0, hx257_1, hx257_2⟩ := at_T71 (Kd.R_reads' HO256.out).2.2 t247 p257 q257
  cases e257
  replace p257 := eq_true p257
  replace q257 := eq_true q257
  have p54 : 0 ≤ (t247 : Int) := od_
  have q54 : (t247 : Int) < ((t254.length : Int) : Int) := od_
  obtain ⟨go54, co54, eo54, gb54, gl54, cl54, HG54⟩ := Kd.R_form HO256.out (by omega)
  (first | cases eo54 | (injection eo54 with ea_ en_ ec_; (first | subst ea_ | (injection ea_ with ea_; subst ea_)); subst ec_; clear en_))
  have GB54 := a_ gb54
  have GG54 := a_ HG54
  clear gb54 gl54 HG54
  (first | simp only [add_plain] at hx257_0 | skip)
  (first | simp only [add_plain] at hx257_1 | skip)
  (first | simp only [add_plain] at hx257_2 | skip)
  obtain ⟨ce54, hcl54, hM54, hcc54, hfr54⟩ := Kd.R_elem HO256.out z71 (t247 : Int) p54 q54
  obtain rfl := k71_openM hM54
  have hx54_0 : World.cell? _ ⟨go54, (t247 : Int).toNat * 3, none⟩ = some (.string ((rd_T71 t254 t247).f0)) := hcc54 0 _ rfl
  have hx54_1 : World.cell? _ ⟨go54, (t247 : Int).toNat * 3 + 1, none⟩ = some (.string ((rd_T71 t254 t247).f1)) := hcc54 1 _ rfl
  have hx54_2 : World.cell? _ ⟨go54, (t247 : Int).toNat * 3 + 2, none⟩ = some (.int .i64 ((rd_T71 t254 t247).f2)) := hcc54 2 _ rfl
  have hf54_0 : World.frozen? _ ⟨go54, (t247 : Int).toNat * 3, none⟩ = false := hfr54 0
  have hf54_1 : World.frozen? _ ⟨go54, (t247 : Int).toNat * 3 + 1, none⟩ = false := hfr54 1
  have hf54_2 : World.frozen? _ ⟨go54, (t247 : Int).toNat * 3 + 2, none⟩ = false := hfr54 2
  clear hcl54 hcc54 hfr54 hM54
  replace p54 := eq_true p54
  replace q54 := eq_true q54
  obtain ⟨ce68, hcl68, hM68, hcc68, hfr68⟩ := Kd.R_elem HO256.out z71 (t247 : Int) od_ (by have h_ : (t247 : Int) < ((t254.length : Int) : Int) := od_; first | exact h_ | (have e_ := (Kd.R_reads' HO256.out).1; omega) | simpa using h_)
  obtain rfl := k71_openM hM68
  have HP68 := (Kd.R_seg HO256.out (t247 : Int) od_ (by have h_ : (t247 : Int) < ((t254.length : Int) : Int) := od_; first | exact h_ | (have e_ := (Kd.R_reads' HO256.out).1; omega) | simpa using h_) (seg := [.string (((rd_T71 t254 t247).f1) ++ a1_3)]) (j := 1) hcl68 hcc68 (show 2 ≤ 3 from by decide) (x' := (⟨(rd_T71 t254 t247).f0, ((rd_T71 t254 t247).f1) ++ a1_3, (rd_T71 t254 t247).f2⟩ : S71)) (k71_mkM _ _ _ (⟨(rd_T71 t254 t247).f0, ((rd_T71 t254 t247).f1) ++ a1_3, (rd_T71 t254 t247).f2⟩ : S71) ) (fun _ hk => hk)).1
  rw [← Ny258.out] at HP68
  have HQ68 := a_ HP68
  clear hcl68 hcc68 hfr68 hM68 HP68
  refine start_ (n := 12) (S := fun w' => w'.cell? ⟨gb239, 0, none⟩ = some (.slice (some ⟨go54, 0, none⟩) t254.length co64) ∧ w'.cell? ⟨gb239, 1, none⟩ = some (.bool false) ∧ w'.cell? ⟨gb239, 2, none⟩ = some (.int .i64 a0_2) ∧ w'.cell? ⟨gb240, 0, none⟩ = some (.int .u8 a1_0) ∧ w'.cell? ⟨gb240, 1, none⟩ = some (.string a1_1) ∧ w'.cell? ⟨gb240, 2, none⟩ = some (.string a1_2) ∧ w'.cell? ⟨gb240, 3, none⟩ = some (.string a1_3) ∧ w'.cell? ⟨gb240, 4, none⟩ = some (.int .i64 a1_4) ∧ w'.cell? ⟨go54, ((t247).toNat * 3), none⟩ = some (.string ((rd_T71 t254 t247).f0)) ∧ w'.cell? ⟨go54, ((t247).toNat * 3) + 1, none⟩ = some (.string ((rd_T71 t254 t247).f1)) ∧ w'.cell? ⟨go54, ((t247).toNat * 3) + 2, none⟩ = some (.int .i64 ((rd_T71 t254 t247).f2))) (ds := [11]) #[false, false, false, false, false, false, false, false, false, false, false, false] (by kernel_rfl) rfl rfl ⟨(blk_cell BK239.out 0).trans rfl, (blk_cell BK239.out 1).trans rfl, (blk_cell BK239.out 2).trans rfl, (blk_cell BK240.out 0).trans rfl, (blk_cell BK240.out 1).trans rfl, (blk_cell BK240.out 2).trans rfl, (blk_cell BK240.out 3).trans rfl, (blk_cell BK240.out 4).trans rfl, hx257_0, hx257_1, hx257_2⟩ (fun hHeld => ?_); refine with_tabW disk_done.tab14 disk_done.bits14 (fun HT_ HW_ => ?_)
  generalize w66.drew = w67 at HO256 BK239 BK240 BK241 HB GG54 HQ68 hf54_0 hf54_1 hf54_2 hx257_0 hx257_1 hx257_2 hx54_0 hx54_1 hx54_2 hHeld ⊢
  refine pu_ HT_ 0 (some 55) ?_
  refine pu_ HT_ 2 (some 57) ?_
  refine pu_ HT_ 6 (some 61) ?_
  refine take_ (i := 1) (N := some 56) (v := ?_) (a' := ?_) #[true, true, true, false, false, false, true, false, false, false, false, false] rfl rfl (take_ofW HT_.out HW_.out (by kernel_rfl)) (fun _ _ _ h => h) (Or.inl ⟨by rfl, ?_⟩) hHeld ?_ ?_
  rotate_left
  ·rintro w' ⟨s0, s1, s2, s3, s4, s5, s6, s7, s8, s9, s10⟩
   go_simp
   with_reducible rfl
  rotate_left
  ·exact ap_
  refine pu_ HT_ 3 (some 58) ?_
  refine pu_ HT_ 4 (some 59) ?_
  refine take_ (i := 5) (N := some 60) (v := ?_) (a' := ?_) #[true, true, true, true, true, true, true, false, false, false, false, false] rfl rfl (take_ofW HT_.out HW_.out (by kernel_rfl)) (fun _ _ _ h => h) (Or.inl ⟨by rfl, ?_⟩) hHeld ?_ ?_
  rotate_left
  ·rintro w' ⟨s0, s1, s2, s3, s4, s5, s6, s7, s8, s9, s10⟩
   go_simp
   with_reducible rfl
  rotate_left
  ·exact ap_
  refine take_ (i := 7) (N := some 62) (v := ?_) (a' := ?_) #[true, true, true, true, true, true, true, true, false, false, false, false] rfl rfl (take_ofW HT_.out HW_.out (by kernel_rfl)) (fun _ _ _ h => h) (Or.inl ⟨by rfl, ?_⟩) hHeld ?_ ?_
  rotate_left
  ·rintro w' ⟨s0, s1, s2, s3, s4, s5, s6, s7, s8, s9, s10⟩
   go_simp
   with_reducible rfl
  rotate_left
  ·exact ap_
  refine pu_ HT_ 8 (some 63) ?_
  refine pu_ HT_ 9 (some 64) ?_
  refine pu_ HT_ 10 (some 65) ?_
  refine last_ (i := 11) (N := none) #[true, true, true, true, true, true, true, true, true, true, true, true] rfl rfl (one_of HT_.out (by kernel_rfl)) (by decide) (fun K hK => ?_)
  refine skip_ (w1 := ?_) (by rfl) rfl ?_ ?_
  rotate_left
  ·go_simp
   rfl
  refine hK.out _ _ ?_
  clear hK K
  refine done_ (done_of HT_.out (by kernel_rfl)) ?_
  try go_wp2
  go_meet
  case rel => exact ⟨_, (y258), (.slice (some ⟨go54, 0, none⟩) t254.length co64), H', ⟨by first | omega | exact Nat.le_refl _⟩, ⟨by refine rq_ ?_; exact HQ68.out⟩, ⟨by refine bq_ ?_; refine blk_far ?_ (by have h_ := Kd.R_ne HO256.out BK239.out (by decide); intro e_; exact h_ (by rw [e_]; rfl)) _; refine bq_ ?_; exact BK239.out⟩, ⟨by refine bq_ ?_; refine blk_far ?_ (by have h_ := Kd.R_ne HO256.out BK240.out (by decide); intro e_; exact h_ (by rw [e_]; rfl)) _; refine bq_ ?_; exact BK240.out⟩, ⟨by refine bq_ ?_; refine blk_far ?_ (by have h_ := Kd.R_ne HO256.out BK241.out (by decide); intro e_; exact h_ (by rw [e_]; rfl)) _; refine bq_ ?_; exact BK241.out⟩, ⟨bl_4 HB GB54 GE239 GE240 GE241⟩⟩
 case rest =>
  clear HC23
  try clear c1
  try clear c2
  try clear p2
  try clear q2
  try clear hx2
  try clear c3
  try clear c4
  try clear c4b0
  try clear c4b1
  try clear p4
  try clear q4
  try clear hx4
  try clear hf4
  try clear c5
  try clear p5
  try clear q5
  try clear hx5
  try clear hf5
  try clear c6
  try clear c9
  try clear c10
  try clear c11
  try clear c18
  try clear c21
  try clear c21b0
  try clear c21b1
  try clear p24
  try clear q24
  try clear hx24
  try clear p25
  try clear q25
  try clear hx25
  try clear c27
  try clear c28
  try clear c35
  try clear c37
  try clear c42
  try clear c42b0
  try clear c42b1
  try clear c43
  try clear c44
  try clear c44b0
  try clear c45
  try clear c45b0
  try clear c46
  try clear c46b0
  try clear c46b1
  try clear c46b2
  try clear c47
  try clear p47
  try clear q47
  try clear hx47
  try clear hf47
  try clear c48
  try clear c49
  try clear c50
  try clear c51
  try clear c51b0
  try clear c52
  try clear c52b0
  try clear c53
  try clear c53b0
  try clear c53b1
  try clear c53b2
  try clear c54
  try clear p54
  try clear q54
  try clear hx54
  try clear hf54
  try clear c55
  try clear c56
  try clear c58
  try clear c68
  try clear hx249_0
  try clear hx249_1
  try clear hx249_2
  try clear hx257_0
  try clear hx257_1
  try clear hx257_2
  try clear hx47_0
  try clear hx47_1
  try clear hx47_2
  try clear hx54_0
  try clear hx54_1
  try clear hx54_2
  try clear p249
  try clear p257
  try clear p47
  try clear p54
  try clear q249
  try clear q257
  try clear q47
  try clear q54
  obtain ⟨kq, x240000_22, u240000, HA, HJ22, HO_240000, BK239, BK240, BK241, HB⟩ := hcut
  cases kq with
  | zero => exact absurd HA.out (by simp [disk_done.j0])
  | succ kj22 =>
   have H := HA.out
   clear HA
   simp only [disk_done.j0] at H
   by_cases c69 : a0_2 = 0
   ·rw [if_pos c69] at H
    have c69b0 : (a0_2 == 0) = true := beq_iff_eq.mpr c69
    have c69b1 : (a0_2 != 0) = false := bne_eq_false_iff_eq.mpr c69
    clear c69
    simp only [Option.some.injEq, Prod.mk.injEq] at H
    obtain ⟨rfl, rfl, rfl, rfl⟩ := H
    have hnb70 := NB239_240.out
    have hnc70 := NB240_239.out
    have hnb71 := NB239_241.out
    have hnc71 := NB241_239.out
    obtain ⟨hcz72_0, hcz72_1, hcz72_2, hfz72_0, hfz72_1, hfz72_2⟩ := c3_ BK239
    obtain ⟨Ao73, co73, eo73⟩ := Kd.R_slice HO_240000.out
    subst eo73
    have hnb74 := NB241_240.out
    have hnc74 := NB240_241.out
    obtain ⟨hcz75_0, hcz75_1, hcz75_2, hfz75_0, hfz75_1, hfz75_2⟩ := c3_ BK241
    go_wp2
    refine bodyPost_ret (results_ct rfl _ _ gb241 24 #[.slice Ao73 x240000_22.length co73, .bool true, .int .i64 a0_2] (0, 0) _ rfl (bp_1 BK241 NB241_239) Try.underlying24 rfl (by kernel_rfl)) rfl ?_
    exact ⟨_, fz_, by refine rq_ ?_; exact Kd.R_mono (Kd.R_far (p := ⟨gb241, 2, none⟩) (Kd.R_far (p := ⟨gb241, 1, none⟩) (Kd.R_far (p := ⟨gb241, 0, none⟩) (Kd.R_far (p := ⟨gb239, 1, none⟩) (Kd.R_types (Kd.R_types HO_240000.out BK239.out (by decide)) BK241.out (by decide)) (fun _ hk => hk.1.2) (.bool true)) (fun _ hk => hk.2) (.slice Ao73 x240000_22.length co73)) (fun _ hk => hk.2) (.bool true)) (fun _ hk => hk.2) (.int .i64 a0_2)) (fun _ hk => trivial), bl_3 HB GE239 GE240 GE241⟩
   rw [if_neg c69] at H
   have c69b0 : (a0_2 == 0) = false := beq_eq_false_iff_ne.mpr c69
   have c69b1 : (a0_2 != 0) = true := bne_iff_ne.mpr c69
   have HC76 := a_ H
   clear H
   have hnb77 := NB239_240.out
   have hnc77 := NB240_239.out
   have hnb78 := NB239_241.out
   have hnc78 := NB241_239.out
   obtain ⟨hcz79_0, hcz79_1, hcz79_2, hfz79_0, hfz79_1, hfz79_2⟩ := c3_ BK239
   go_upto_if 73 with (fail)
   go_cut [] (fun wc => ∃ (kq : Nat) (x240002_75 : Int), Aside0 (disk_done.j1 kq t247 x240000_22 false x240002_75 a1_0 a1_1 a1_2 a1_3 a1_4 = some (r1, r2, r3, r4)) ∧ Aside0 (kq ≤ kj22) ∧ Aside0 (Kd.R k71 71 wc w.heap.size (fun _ => True) u240000 x240000_22) ∧ Aside0 (wc.heap[gb239]? = some (.cells #[u240000, .bool false, .int .i64 x240002_75] 24 (0, 0))) ∧ Aside0 (wc.heap[gb240]? = some (.cells #[.int .u8 a1_0, .string a1_1, .string a1_2, .string a1_3, .int .i64 a1_4] 115 (0, 0))) ∧ Aside0 (wc.heap[gb241]? = some (.cells #[(.slice none 0 0), .bool false, .int .i64 0] 24 (0, 0))) ∧ Aside0 (Below w.heap.size w wc))
   case first =>
    have H := HC76.out
    clear HC76
    by_cases c80 : a0_2 > 0
    rotate_left
    ·rw [if_neg c80] at H
     have c80b0 : decide (0 < a0_2) = false := decide_eq_false c80
     clear c80
     (first | rw [c80b0] | (simp only [i64_w, i32_w]; rw [c80b0]) | skip)
     have H' := a_ H
     clear H
     go_wp2
     go_meet
     case rel => exact ⟨_, (a0_2), H', ⟨by have := HJ22.out; first | omega | exact Nat.le_refl _⟩, ⟨by refine rq_ ?_; exact HO_240000.out⟩, ⟨bk_ BK239⟩, ⟨bk_ BK240⟩, ⟨bk_ BK241⟩, ⟨bl_3 HB GE239 GE240 GE241⟩⟩
    rw [if_pos c80] at H
    have c80b0 : decide (0 < a0_2) = true := decide_eq_true c80
    clear c80
    (first | rw [c80b0] | (simp only [i64_w, i32_w]; rw [c80b0]) | skip)
    have H' := a_ H
    clear H
    have hnb81 := NB239_240.out
    have hnc81 := NB240_239.out
    have hnb82 := NB239_241.out
    have hnc82 := NB241_239.out
    obtain ⟨hcz83_0, hcz83_1, hcz83_2, hfz83_0, hfz83_1, hfz83_2⟩ := c3_ BK239
    go_wp2
    go_meet
    case rel => exact ⟨_, (wrap64 (a0_2 - 1)), H', ⟨by have := HJ22.out; first | omega | exact Nat.le_refl _⟩, ⟨by refine rq_ ?_; exact Kd.R_mono (Kd.R_far (p := ⟨gb239, 2, none⟩) (Kd.R_types HO_240000.out BK239.out (by decide)) (fun _ hk => hk.2) (.int .i64 (wrap64 (a0_2 - 1)))) (fun _ hk => trivial)⟩, ⟨by refine bq_ ?_; refine blk_put (cs := #[u240000, .bool false, .int .i64 a0_2]) ?_ 2 _ rfl; refine bq_ ?_; exact BK239.out⟩, ⟨by refine bq_ ?_; refine blk_far ?_ NB240_239.out _; refine bq_ ?_; exact BK240.out⟩, ⟨by refine bq_ ?_; refine blk_far ?_ NB241_239.out _; refine bq_ ?_; exact BK241.out⟩, ⟨bl_3 HB GE239 GE240 GE241⟩⟩
   case rest =>
    clear HC76
    try clear c1
    try clear c2
    try clear p2
    try clear q2
    try clear hx2
    try clear c3
    try clear c4
    try clear c4b0
    try clear c4b1
    try clear p4
    try clear q4
    try clear hx4
    try clear hf4
    try clear c5
    try clear p5
    try clear q5
    try clear hx5
    try clear hf5
    try clear c6
    try clear p6
    try clear c7
    try clear c8
    try clear c9
    try clear c10
    try clear c11
    try clear c18
    try clear c21
    try clear c21b0
    try clear c21b1
    try clear p24
    try clear q24
    try clear hx24
    try clear p25
    try clear q25
    try clear hx25
    try clear c27
    try clear c28
    try clear c35
    try clear c37
    try clear c42
    try clear c42b0
    try clear c42b1
    try clear c43
    try clear c44
    try clear c44b0
    try clear c45
    try clear c45b0
    try clear c46
    try clear c46b0
    try clear c46b1
    try clear c46b2
    try clear c47
    try clear p47
    try clear q47
    try clear hx47
    try clear hf47
    try clear c48
    try clear c49
    try clear c50
    try clear c51
    try clear c51b0
    try clear c52
    try clear c52b0
    try clear c53
    try clear c53b0
    try clear c53b1
    try clear c53b2
    try clear c54
    try clear p54
    try clear q54
    try clear hx54
    try clear hf54
    try clear c55
    try clear c56
    try clear c58
    try clear p64
    try clear c68
    try clear c69
    try clear c69b0
    try clear c69b1
    try clear c70
    try clear c71
    try clear c74
    try clear c77
    try clear c78
    try clear c80
    try clear c80b0
    try clear c81
    try clear c82
    try clear hx249_0
    try clear hx249_1
    try clear hx249_2
    try clear hx257_0
    try clear hx257_1
    try clear hx257_2
    try clear hx47_0
    try clear hx47_1
    try clear hx47_2
    try clear hx54_0
    try clear hx54_1
    try clear hx54_2
    try clear p2
    try clear p24
    try clear p249
    try clear p25
    try clear p257
    try clear p4
    try clear p47
    try clear p5
    try clear p54
    try clear q2
    try clear q24
    try clear q249
    try clear q25
    try clear q257
    try clear q4
    try clear q47
    try clear q5
    try clear q54
    obtain ⟨kq, x240002_75, HA, HJ75, HO_240000, BK239, BK240, BK241, HB⟩ := hcut
    cases kq with
    | zero => exact absurd HA.out (by simp [disk_done.j1])
    | succ kj75 =>
     have H := HA.out
     clear HA
     simp only [disk_done.j1] at H
     by_cases c84 : 0 ≤ t247
     rotate_left
     ·rw [if_neg c84] at H
      exact absurd H (by simp)
     rw [if_pos c84] at H
     have c84b0 : decide (0 ≤ t247) = true := decide_eq_true c84
     clear c84
     by_cases c85 : t247 < (x240000_22.length : Int)
     rotate_left
     ·rw [if_neg c85] at H
      exact absurd H (by simp)
     rw [if_pos c85] at H
     have c85b0 : decide (t247 < (x240000_22.length : Int)) = true := decide_eq_true c85
     clear c85
     by_cases c87 : a1_0 = 1
     ·rw [if_pos c87] at H
      have c87b0 : (a1_0 == 1) = true := beq_iff_eq.mpr c87
      have c87b1 : (a1_0 != 1) = false := bne_eq_false_iff_eq.mpr c87
      clear c87
      obtain ⟨y260, hy260⟩ : ∃ y_ : List (S71), y_ = (x240000_22.set (t247 : Int).toNat (⟨(rd_T71 x240000_22 t247).f0, (rd_T71 x240000_22 t247).f1, (((rd_T71 x240000_22 t247).f1).size : Int)⟩ : S71)) := ⟨_, rfl⟩
      replace H : (some (y260, false, x240002_75, 0)) = some (r1, r2, r3, r4) := by first | (rw [hy260]; with_reducible exact H) | (have H2_ := (Option.bind_some _ _).symm.trans H; rw [hy260]; with_reducible exact H2_) | (have H2_ := (Option.bind_some _ _).symm.trans H; with_reducible exact H2_) | with_reducible exact H | (rw [hy260]; exact H) | exact H
      have Ny260 := a_ hy260
      clear hy260
      simp only [Option.some.injEq, Prod.mk.injEq] at H
      obtain ⟨rfl, rfl, rfl, rfl⟩ := H
      have hnb89 := NB239_240.out
      have hnc89 := NB240_239.out
      have hnb90 := NB239_241.out
      have hnc90 := NB241_239.out
      obtain ⟨hcz91_0, hcz91_1, hcz91_2, hfz91_0, hfz91_1, hfz91_2⟩ := c3_ BK239
      have p86 : 0 ≤ (t247 : Int) := od_
      have q86 : (t247 : Int) < ((x240000_22.length : Int) : Int) := od_
      obtain ⟨go86, co86, eo86, gb86, gl86, cl86, HG86⟩ := Kd.R_form HO_240000.out (by omega)
      (first | cases eo86 | (injection eo86 with ea_ en_ ec_; (first | subst ea_ | (injection ea_ with ea_; subst ea_)); subst ec_; clear en_))
      have GB86 := a_ gb86
      have GG86 := a_ HG86
      clear gb86 gl86 HG86
      obtain ⟨ce86, hcl86, hM86, hcc86, hfr86⟩ := Kd.R_elem HO_240000.out z71 (t247 : Int) p86 q86
      obtain rfl := k71_openM hM86
      have hx86_0 : wc.cell? ⟨go86, (t247 : Int).toNat * 3, none⟩ = some (.string ((rd_T71 x240000_22 t247).f0)) := hcc86 0 _ rfl
      have hx86_1 : wc.cell? ⟨go86, (t247 : Int).toNat * 3 + 1, none⟩ = some (.string ((rd_T71 x240000_22 t247).f1)) := hcc86 1 _ rfl
      have hx86_2 : wc.cell? ⟨go86, (t247 : Int).toNat * 3 + 2, none⟩ = some (.int .i64 ((rd_T71 x240000_22 t247).f2)) := hcc86 2 _ rfl
      have hf86_0 : wc.frozen? ⟨go86, (t247 : Int).toNat * 3, none⟩ = false := hfr86 0
      have hf86_1 : wc.frozen? ⟨go86, (t247 : Int).toNat * 3 + 1, none⟩ = false := hfr86 1
      have hf86_2 : wc.frozen? ⟨go86, (t247 : Int).toNat * 3 + 2, none⟩ = false := hfr86 2
      clear hcl86 hcc86 hfr86 hM86
      replace p86 := eq_true p86
      replace q86 := eq_true q86
      have hnb92 := NB240_241.out
      have hnc92 := NB241_240.out
      obtain ⟨hcz93_0, hcz93_1, hcz93_2, hcz93_3, hcz93_4, hfz93_0, hfz93_1, hfz93_2, hfz93_3, hfz93_4⟩ := c5_ BK240
      have p259 : 0 ≤ (t247 : Int) := od_
      have q259 : t247 < (x240000_22.length : Int) := od_
      obtain ⟨ad259, e259, hx259_0, hx259_1, hx259_2⟩ := at_T71 (Kd.R_reads' HO_240000.out).2.2 t247 p259 q259
      obtain rfl : (⟨go86, 0, none⟩ : Addr) = ad259 := (by injection e259)
      (first | simp only [add_plain] at hx259_0 | simp only [add_at] at hx259_0 | simp only [Addr.add, Nat.zero_add] at hx259_0 | skip)
      (first | simp only [add_plain] at hx259_1 | simp only [add_at] at hx259_1 | simp only [Addr.add, Nat.zero_add] at hx259_1 | skip)
      (first | simp only [add_plain] at hx259_2 | simp only [add_at] at hx259_2 | simp only [Addr.add, Nat.zero_add] at hx259_2 | skip)
      replace p259 := eq_true p259
      replace q259 := eq_true q259
      have p88 : 0 ≤ (t247 : Int) := od_
      have q88 : (t247 : Int) < ((x240000_22.length : Int) : Int) := od_
      obtain ⟨ce88, hcl88, hM88, hcc88, hfr88⟩ := Kd.R_elem HO_240000.out z71 (t247 : Int) p88 q88
      obtain rfl := k71_openM hM88
      have hx88_0 : wc.cell? ⟨go86, (t247 : Int).toNat * 3, none⟩ = some (.string ((rd_T71 x240000_22 t247).f0)) := hcc88 0 _ rfl
      have hx88_1 : wc.cell? ⟨go86, (t247 : Int).toNat * 3 + 1, none⟩ = some (.string ((rd_T71 x240000_22 t247).f1)) := hcc88 1 _ rfl
      have hx88_2 : wc.cell? ⟨go86, (t247 : Int).toNat * 3 + 2, none⟩ = some (.int .i64 ((rd_T71 x240000_22 t247).f2)) := hcc88 2 _ rfl
      have hf88_0 : wc.frozen? ⟨go86, (t247 : Int).toNat * 3, none⟩ = false := hfr88 0
      have hf88_1 : wc.frozen? ⟨go86, (t247 : Int).toNat * 3 + 1, none⟩ = false := hfr88 1
      have hf88_2 : wc.frozen? ⟨go86, (t247 : Int).toNat * 3 + 2, none⟩ = false := hfr88 2
      clear hcl88 hcc88 hfr88 hM88
      replace p88 := eq_true p88
      replace q88 := eq_true q88
      have HX94 := a_ (show Kd.R k71 71 wc w.heap.size (fun _ => True) (.slice (some ⟨go86, 0, none⟩) x240000_22.length co86) x240000_22 from (by refine rq_ ?_; exact HO_240000.out))
      obtain ⟨ce94, hcl94, hM94, hcc94, hfr94⟩ := Kd.R_elem HX94.out z71 (t247 : Int) od_ (by have h_ : (t247 : Int) < ((x240000_22.length : Int) : Int) := od_; first | exact h_ | (have e_ := (Kd.R_reads' HO_240000.out).1; omega) | simpa using h_)
      obtain rfl := k71_openM hM94
      have HP94 := Kd.R_seg HX94.out (t247 : Int) od_ (by have h_ : (t247 : Int) < ((x240000_22.length : Int) : Int) := od_; first | exact h_ | (have e_ := (Kd.R_reads' HO_240000.out).1; omega) | simpa using h_) (seg := [.int .i64 (((rd_T71 x240000_22 t247).f1).size : Int)]) (j := 2) hcl94 hcc94 (show 3 ≤ 3 from by decide) (x' := (⟨(rd_T71 x240000_22 t247).f0, (rd_T71 x240000_22 t247).f1, (((rd_T71 x240000_22 t247).f1).size : Int)⟩ : S71)) (k71_mkM _ _ _ (⟨(rd_T71 x240000_22 t247).f0, (rd_T71 x240000_22 t247).f1, (((rd_T71 x240000_22 t247).f1).size : Int)⟩ : S71) ) (fun _ hk => hk)
      have hx94_2 := hcc94 2 _ rfl
      (try simp only [show (k71).sz = 3 from rfl, Nat.mul_one, Nat.add_zero] at hx94_2)
      have hf94_2 := hfr94 2
      (try simp only [show (k71).sz = 3 from rfl, Nat.mul_one, Nat.add_zero] at hf94_2)
      clear hcl94 hcc94 hfr94 hM94
      go_wp2_with (first | ((with_reducible refine gate_store (t := 3) (p := 93) rfl ?_); refine store_event (t := 3) (p := 93) (v := ?vo_w95) (w1 := (wc.setCell ⟨go86, (t247 : Int).toNat * 3 + 2, none⟩ (.int .i64 (((rd_T71 x240000_22 t247).f1).size : Int)))) ?hg ?ho ?hn ?hr ?_; (case ho => rfl); (case hg => rfl); (case hn => rfl); (case hr => first | (go_simp; done) | (go_simp; rfl)); intro w95 hw; have hg : wc.grownBy w95 (some go86) := (by rw [hw]; exact HP94.2); have hp_ : Kd.R k71 71 w95 w.heap.size (fun _ => True) (.slice (some ⟨go86, 0, none⟩) x240000_22.length co86) y260 := (by rw [hw, Ny260.out]; exact HP94.1); clear HP94; replace BK239 := a_ (blk_grown (g := gb239) (o := .cells #[.slice (some ⟨go86, 0, none⟩) x240000_22.length co86, .bool false, .int .i64 x240002_75] 24 (0, 0)) (bk_ BK239) hg (Kd.R_ne HO_240000.out BK239.out (by decide))); replace BK240 := a_ (blk_grown (g := gb240) (o := .cells #[.int .u8 a1_0, .string a1_1, .string a1_2, .string a1_3, .int .i64 a1_4] 115 (0, 0)) (bk_ BK240) hg (Kd.R_ne HO_240000.out BK240.out (by decide))); replace BK241 := a_ (blk_grown (g := gb241) (o := .cells #[.slice none 0 0, .bool false, .int .i64 0] 24 (0, 0)) (bk_ BK241) hg (Kd.R_ne HO_240000.out BK241.out (by decide))); replace HO_240000 := a_ (hp_); replace HB := a_ ((by rw [hw]; exact below_set (HB.out) GB86.out : Below w.heap.size w w95)); clear hg hw hp_; obtain ⟨hcz96_0, hcz96_1, hcz96_2, hfz96_0, hfz96_1, hfz96_2⟩ := c3_ BK239; obtain ⟨hcz97_0, hcz97_1, hcz97_2, hfz97_0, hfz97_1, hfz97_2⟩ := c3_ BK241))
      refine bodyPost_ret (results_ct rfl _ _ gb241 24 #[.slice (some ⟨go86, 0, none⟩) x240000_22.length co86, .bool false, .int .i64 x240002_75] (0, 0) _ rfl (bp_0 BK241) Try.underlying24 rfl (by kernel_rfl)) rfl ?_
      exact ⟨_, fz_, by refine rq_ ?_; exact Kd.R_mono (Kd.R_far (p := ⟨gb241, 2, none⟩) (Kd.R_far (p := ⟨gb241, 1, none⟩) (Kd.R_far (p := ⟨gb241, 0, none⟩) (Kd.R_types HO_240000.out BK241.out (by decide)) (fun _ hk => hk.2) (.slice (some ⟨go86, 0, none⟩) x240000_22.length co86)) (fun _ hk => hk.2) (.bool false)) (fun _ hk => hk.2) (.int .i64 x240002_75)) (fun _ hk => trivial), bl_3 HB GE239 GE240 GE241⟩
     rw [if_neg c87] at H
     have c87b0 : (a1_0 == 1) = false := beq_eq_false_iff_ne.mpr c87
     have c87b1 : (a1_0 != 1) = true := bne_iff_ne.mpr c87
     by_cases c98 : a1_0 = 2
     ·rw [if_pos c98] at H
      have c98b0 : (a1_0 == 2) = true := beq_iff_eq.mpr c98
      have c98b1 : (a1_0 != 2) = false := bne_eq_false_iff_eq.mpr c98
      clear c98
      by_cases c99 : 0 ≤ a1_4
      rotate_left
      ·rw [if_neg c99] at H
       exact absurd H (by simp)
      rw [if_pos c99] at H
      have c99b0 := eq_true c99
      have c99b1 : decide (0 ≤ a1_4) = true := decide_eq_true c99
      clear c99
      by_cases c100 : a1_4 ≤ (((rd_T71 x240000_22 t247).f1).size : Int)
      rotate_left
      ·rw [if_neg c100] at H
       exact absurd H (by simp)
      rw [if_pos c100] at H
      have c100b0 := eq_true c100
      have c100b1 : decide (a1_4 ≤ (((rd_T71 x240000_22 t247).f1).size : Int)) = true := decide_eq_true c100
      clear c100
      obtain ⟨y262, hy262⟩ : ∃ y_ : List (S71), y_ = (x240000_22.set (t247 : Int).toNat (⟨(rd_T71 x240000_22 t247).f0, ((rd_T71 x240000_22 t247).f1).extract 0 (a1_4 : Int).toNat, (rd_T71 x240000_22 t247).f2⟩ : S71)) := ⟨_, rfl⟩
      replace H : (some ((y262.set (t247 : Int).toNat (⟨(rd_T71 y262 t247).f0, (rd_T71 y262 t247).f1, mn ((rd_T71 y262 t247).f2) a1_4⟩ : S71)), false, x240002_75, 0)) = some (r1, r2, r3, r4) := by first | (rw [hy262]; with_reducible exact H) | (have H2_ := (Option.bind_some _ _).symm.trans H; rw [hy262]; with_reducible exact H2_) | (have H2_ := (Option.bind_some _ _).symm.trans H; with_reducible exact H2_) | with_reducible exact H | (rw [hy262]; exact H) | exact H
      have Ny262 := a_ hy262
      clear hy262
      obtain ⟨ji102, hji102⟩ : ∃ j_ : Int, (mn ((rd_T71 y262 t247).f2) a1_4) = j_ := ⟨_, rfl⟩
      replace H : (some ((y262.set (t247 : Int).toNat (⟨(rd_T71 y262 t247).f0, (rd_T71 y262 t247).f1, ji102⟩ : S71)), false, x240002_75, 0)) = some (r1, r2, r3, r4) := by first | (rw [hji102] at H; exact H) | (simp only [hji102] at H ⊢; exact H)
      have hji102_ : (if a1_4 < ((rd_T71 y262 t247).f2) then a1_4 else ((rd_T71 y262 t247).f2)) = ji102 := hji102
      obtain ⟨y264, hy264⟩ : ∃ y_ : List (S71), y_ = (y262.set (t247 : Int).toNat (⟨(rd_T71 y262 t247).f0, (rd_T71 y262 t247).f1, ji102⟩ : S71)) := ⟨_, rfl⟩
      replace H : (some (y264, false, x240002_75, 0)) = some (r1, r2, r3, r4) := by first | (rw [hy264]; with_reducible exact H) | (have H2_ := (Option.bind_some _ _).symm.trans H; rw [hy264]; with_reducible exact H2_) | (have H2_ := (Option.bind_some _ _).symm.trans H; with_reducible exact H2_) | with_reducible exact H | (rw [hy264]; exact H) | exact H
      have Ny264 := a_ hy264
      clear hy264
      simp only [Option.some.injEq, Prod.mk.injEq] at H
      obtain ⟨rfl, rfl, rfl, rfl⟩ := H
      have hnb104 := NB239_240.out
      have hnc104 := NB240_239.out
      have hnb105 := NB239_241.out
      have hnc105 := NB241_239.out
      obtain ⟨hcz106_0, hcz106_1, hcz106_2, hfz106_0, hfz106_1, hfz106_2⟩ := c3_ BK239
      have p86 : 0 ≤ (t247 : Int) := od_
      have q86 : (t247 : Int) < ((x240000_22.length : Int) : Int) := od_
      obtain ⟨go86, co86, eo86, gb86, gl86, cl86, HG86⟩ := Kd.R_form HO_240000.out (by omega)
      (first | cases eo86 | (injection eo86 with ea_ en_ ec_; (first | subst ea_ | (injection ea_ with ea_; subst ea_)); subst ec_; clear en_))
      have GB86 := a_ gb86
      have GG86 := a_ HG86
      clear gb86 gl86 HG86
      obtain ⟨ce86, hcl86, hM86, hcc86, hfr86⟩ := Kd.R_elem HO_240000.out z71 (t247 : Int) p86 q86
      obtain rfl := k71_openM hM86
      have hx86_0 : wc.cell? ⟨go86, (t247 : Int).toNat * 3, none⟩ = some (.string ((rd_T71 x240000_22 t247).f0)) := hcc86 0 _ rfl
      have hx86_1 : wc.cell? ⟨go86, (t247 : Int).toNat * 3 + 1, none⟩ = some (.string ((rd_T71 x240000_22 t247).f1)) := hcc86 1 _ rfl
      have hx86_2 : wc.cell? ⟨go86, (t247 : Int).toNat * 3 + 2, none⟩ = some (.int .i64 ((rd_T71 x240000_22 t247).f2)) := hcc86 2 _ rfl
      have hf86_0 : wc.frozen? ⟨go86, (t247 : Int).toNat * 3, none⟩ = false := hfr86 0
      have hf86_1 : wc.frozen? ⟨go86, (t247 : Int).toNat * 3 + 1, none⟩ = false := hfr86 1
      have hf86_2 : wc.frozen? ⟨go86, (t247 : Int).toNat * 3 + 2, none⟩ = false := hfr86 2
      clear hcl86 hcc86 hfr86 hM86
      replace p86 := eq_true p86
      replace q86 := eq_true q86
      have hnb107 := NB240_241.out
      have hnc107 := NB241_240.out
      obtain ⟨hcz108_0, hcz108_1, hcz108_2, hcz108_3, hcz108_4, hfz108_0, hfz108_1, hfz108_2, hfz108_3, hfz108_4⟩ := c5_ BK240
      try go_wp2
      have n0_ := a_ (Kd.R_drew HO_240000.out)
      have n1_ := a_ (blk_drew BK239.out)
      have n2_ := a_ (blk_drew BK240.out)
      have n3_ := a_ (blk_drew BK241.out)
      have n4_ := a_ (below_drew1 HB.out)
      clear HO_240000
      clear BK239
      clear BK240
      clear BK241
      clear HB
      have HO_240000 := n0_
      have BK239 := n1_
      have BK240 := n2_
      have BK241 := n3_
      have HB := n4_
      clear n0_ n1_ n2_ n3_ n4_
      have p261 : 0 ≤ (t247 : Int) := od_
      have q261 : t247 < (x240000_22.length : Int) := od_
      obtain ⟨ad261, e261, hx261_0, hx261_1, hx261_2⟩ := at_T71 (Kd.R_reads' HO_240000.out).2.2 t247 p261 q261
      obtain rfl : (⟨go86, 0, none⟩ : Addr) = ad261 := (by injection e261)
      (first | simp only [add_plain] at hx261_0 | simp only [add_at] at hx261_0 | simp only [Addr.add, Nat.zero_add] at hx261_0 | skip)
      (first | simp only [add_plain] at hx261_1 | simp only [add_at] at hx261_1 | simp only [Addr.add, Nat.zero_add] at hx261_1 | skip)
      (first | simp only [add_plain] at hx261_2 | simp only [add_at] at hx261_2 | simp only [Addr.add, Nat.zero_add] at hx261_2 | skip)
      replace p261 := eq_true p261
      replace q261 := eq_true q261
      have p101 : 0 ≤ (t247 : Int) := od_
      have q101 : (t247 : Int) < ((x240000_22.length : Int) : Int) := od_
      obtain ⟨ce101, hcl101, hM101, hcc101, hfr101⟩ := Kd.R_elem HO_240000.out z71 (t247 : Int) p101 q101
      obtain rfl := k71_openM hM101
      have hx101_0 : World.cell? _ ⟨go86, (t247 : Int).toNat * 3, none⟩ = some (.string ((rd_T71 x240000_22 t247).f0)) := hcc101 0 _ rfl
      have hx101_1 : World.cell? _ ⟨go86, (t247 : Int).toNat * 3 + 1, none⟩ = some (.string ((rd_T71 x240000_22 t247).f1)) := hcc101 1 _ rfl
      have hx101_2 : World.cell? _ ⟨go86, (t247 : Int).toNat * 3 + 2, none⟩ = some (.int .i64 ((rd_T71 x240000_22 t247).f2)) := hcc101 2 _ rfl
      have hf101_0 : World.frozen? _ ⟨go86, (t247 : Int).toNat * 3, none⟩ = false := hfr101 0
      have hf101_1 : World.frozen? _ ⟨go86, (t247 : Int).toNat * 3 + 1, none⟩ = false := hfr101 1
      have hf101_2 : World.frozen? _ ⟨go86, (t247 : Int).toNat * 3 + 2, none⟩ = false := hfr101 2
      clear hcl101 hcc101 hfr101 hM101
      replace p101 := eq_true p101
      replace q101 := eq_true q101
      obtain ⟨ce110, hcl110, hM110, hcc110, hfr110⟩ := Kd.R_elem HO_240000.out z71 (t247 : Int) od_ (by have h_ : (t247 : Int) < ((x240000_22.length : Int) : Int) := od_; first | exact h_ | (have e_ := (Kd.R_reads' HO_240000.out).1; omega) | simpa using h_)
      obtain rfl := k71_openM hM110
      have HP110 := (Kd.R_seg HO_240000.out (t247 : Int) od_ (by have h_ : (t247 : Int) < ((x240000_22.length : Int) : Int) := od_; first | exact h_ | (have e_ := (Kd.R_reads' HO_240000.out).1; omega) | simpa using h_) (seg := [.string (((rd_T71 x240000_22 t247).f1).extract 0 (a1_4 : Int).toNat)]) (j := 1) hcl110 hcc110 (show 2 ≤ 3 from by decide) (x' := (⟨(rd_T71 x240000_22 t247).f0, ((rd_T71 x240000_22 t247).f1).extract 0 (a1_4 : Int).toNat, (rd_T71 x240000_22 t247).f2⟩ : S71)) (k71_mkM _ _ _ (⟨(rd_T71 x240000_22 t247).f0, ((rd_T71 x240000_22 t247).f1).extract 0 (a1_4 : Int).toNat, (rd_T71 x240000_22 t247).f2⟩ : S71) ) (fun _ hk => hk)).1
      rw [← Ny262.out] at HP110
      have HQ110 := a_ HP110
      clear hcl110 hcc110 hfr110 hM110 HP110
      refine start_ (n := 11) (S := fun w' => w'.cell? ⟨gb240, 0, none⟩ = some (.int .u8 a1_0) ∧ w'.cell? ⟨gb240, 1, none⟩ = some (.string a1_1) ∧ w'.cell? ⟨gb240, 2, none⟩ = some (.string a1_2) ∧ w'.cell? ⟨gb240, 3, none⟩ = some (.string a1_3) ∧ w'.cell? ⟨gb240, 4, none⟩ = some (.int .i64 a1_4) ∧ w'.cell? ⟨go86, (t247).toNat * 3, none⟩ = some (.string ((rd_T71 x240000_22 t247).f0)) ∧ w'.cell? ⟨go86, (t247).toNat * 3 + 1, none⟩ = some (.string ((rd_T71 x240000_22 t247).f1)) ∧ w'.cell? ⟨go86, (t247).toNat * 3 + 2, none⟩ = some (.int .i64 ((rd_T71 x240000_22 t247).f2))) (ds := [10]) #[false, false, false, false, false, false, false, false, false, false, false] (by kernel_rfl) rfl rfl ⟨(blk_cell BK240.out 0).trans rfl, (blk_cell BK240.out 1).trans rfl, (blk_cell BK240.out 2).trans rfl, (blk_cell BK240.out 3).trans rfl, (blk_cell BK240.out 4).trans rfl, hx261_0, hx261_1, hx261_2⟩ (fun hHeld => ?_); refine with_tabW disk_done.tab25 disk_done.bits25 (fun HT_ HW_ => ?_)
      generalize wc.drew = w109 at HO_240000 BK239 BK240 BK241 HB HQ110 hf101_0 hf101_1 hf101_2 hx101_0 hx101_1 hx101_2 hx261_0 hx261_1 hx261_2 hHeld ⊢
      refine pu_ HT_ 0 (some 96) ?_
      refine pu_ HT_ 1 (some 97) ?_
      refine pu_ HT_ 2 (some 98) ?_
      refine pu_ HT_ 3 (some 99) ?_
      refine pu_ HT_ 5 (some 101) ?_
      refine take_ (i := 4) (N := some 100) (v := ?_) (a' := ?_) #[true, true, true, true, true, true, false, false, false, false, false] rfl rfl (take_ofW HT_.out HW_.out (by kernel_rfl)) (fun _ _ _ h => h) (Or.inl ⟨by rfl, ?_⟩) hHeld ?_ ?_
      rotate_left
      ·rintro w' ⟨s0, s1, s2, s3, s4, s5, s6, s7⟩
       go_simp
       with_reducible rfl
      rotate_left
      ·exact ap_
      refine take_ (i := 6) (N := some 102) (v := ?_) (a' := ?_) #[true, true, true, true, true, true, true, false, false, false, false] rfl rfl (take_ofW HT_.out HW_.out (by kernel_rfl)) (fun _ _ _ h => h) (Or.inl ⟨by rfl, ?_⟩) hHeld ?_ ?_
      rotate_left
      ·rintro w' ⟨s0, s1, s2, s3, s4, s5, s6, s7⟩
       go_simp
       with_reducible rfl
      rotate_left
      ·exact ap_
      refine pu_ HT_ 7 (some 103) ?_
      refine pu_ HT_ 8 (some 104) ?_
      refine pu_ HT_ 9 (some 105) ?_
      refine last_ (i := 10) (N := none) #[true, true, true, true, true, true, true, true, true, true, true] rfl rfl (one_of HT_.out (by kernel_rfl)) (by decide) (fun K hK => ?_)
      refine skip_ (w1 := ?_) (by rfl) rfl ?_ ?_
      rotate_left
      ·go_simp
       rfl
      refine hK.out _ _ ?_
      clear hK K
      refine done_ (done_of HT_.out (by kernel_rfl)) ?_
      have n0_ : Aside0 (Kd.R k71 71 (w109.setCell ⟨go86, (t247 : Int).toNat * 3 + 1, none⟩ (.string (((rd_T71 x240000_22 t247).f1).extract 0 (a1_4 : Int).toNat))) w.heap.size (fun _ => True) (.slice (some ⟨go86, 0, none⟩) x240000_22.length co86) y262) := ⟨by refine rq_ ?_; exact HQ110.out⟩
      have n1_ : Aside0 ((w109.setCell ⟨go86, (t247 : Int).toNat * 3 + 1, none⟩ (.string (((rd_T71 x240000_22 t247).f1).extract 0 (a1_4 : Int).toNat))).heap[gb239]? = some (.cells #[.slice (some ⟨go86, 0, none⟩) x240000_22.length co86, .bool false, .int .i64 x240002_75] 24 (0, 0))) := ⟨by refine bq_ ?_; refine blk_far ?_ (by have h_ := Kd.R_ne HO_240000.out BK239.out (by decide); intro e_; exact h_ (by rw [e_]; rfl)) _; refine bq_ ?_; exact BK239.out⟩
      have n2_ : Aside0 ((w109.setCell ⟨go86, (t247 : Int).toNat * 3 + 1, none⟩ (.string (((rd_T71 x240000_22 t247).f1).extract 0 (a1_4 : Int).toNat))).heap[gb240]? = some (.cells #[.int .u8 a1_0, .string a1_1, .string a1_2, .string a1_3, .int .i64 a1_4] 115 (0, 0))) := ⟨by refine bq_ ?_; refine blk_far ?_ (by have h_ := Kd.R_ne HO_240000.out BK240.out (by decide); intro e_; exact h_ (by rw [e_]; rfl)) _; refine bq_ ?_; exact BK240.out⟩
      have n3_ : Aside0 ((w109.setCell ⟨go86, (t247 : Int).toNat * 3 + 1, none⟩ (.string (((rd_T71 x240000_22 t247).f1).extract 0 (a1_4 : Int).toNat))).heap[gb241]? = some (.cells #[.slice none 0 0, .bool false, .int .i64 0] 24 (0, 0))) := ⟨by refine bq_ ?_; refine blk_far ?_ (by have h_ := Kd.R_ne HO_240000.out BK241.out (by decide); intro e_; exact h_ (by rw [e_]; rfl)) _; refine bq_ ?_; exact BK241.out⟩
      have n4_ : Aside0 (Below w.heap.size w (w109.setCell ⟨go86, (t247 : Int).toNat * 3 + 1, none⟩ (.string (((rd_T71 x240000_22 t247).f1).extract 0 (a1_4 : Int).toNat)))) := ⟨bl_4 HB GB86 GE239 GE240 GE241⟩
      (try clear HO_240000)
      (try clear BK239)
      (try clear BK240)
      (try clear BK241)
      (try clear HB)
      generalize (w109.setCell ⟨go86, (t247 : Int).toNat * 3 + 1, none⟩ (.string (((rd_T71 x240000_22 t247).f1).extract 0 (a1_4 : Int).toNat))) = w111 at n0_ n1_ n2_ n3_ n4_ ⊢
      have HO_240000 := n0_
      have BK239 := n1_
      have BK240 := n2_
      have BK241 := n3_
      have HB := n4_
      clear n0_ n1_ n2_ n3_ n4_
      try go_wp2
      have n0_ := a_ (Kd.R_drew HO_240000.out)
      have n1_ := a_ (blk_drew BK239.out)
      have n2_ := a_ (blk_drew BK240.out)
      have n3_ := a_ (blk_drew BK241.out)
      have n4_ := a_ (below_drew1 HB.out)
      clear HO_240000
      clear BK239
      clear BK240
      clear BK241
      clear HB
      have HO_240000 := n0_
      have BK239 := n1_
      have BK240 := n2_
      have BK241 := n3_
      have HB := n4_
      clear n0_ n1_ n2_ n3_ n4_
      have p263 : 0 ≤ (t247 : Int) := od_
      have q263 : t247 < (y262.length : Int) := (by have h_ : (t247 : Int) < ((x240000_22.length : Int) : Int) := od_; first | (have e_ := (Kd.R_reads' HO_240000.out).1; omega) | simpa only [Ny262.out, List.length_set] using h_)
      have ql263 : ((t247 : Int) < ((x240000_22.length : Int) : Int)) = True := eq_true od_
      obtain ⟨ad263, e263, hx263_0, hx263_1, hx263_2⟩ := at_T71 (Kd.R_reads' HO_240000.out).2.2 t247 p263 q263
      obtain rfl : (⟨go86, 0, none⟩ : Addr) = ad263 := (by injection e263)
      (first | simp only [add_plain] at hx263_0 | simp only [add_at] at hx263_0 | simp only [Addr.add, Nat.zero_add] at hx263_0 | skip)
      (first | simp only [add_plain] at hx263_1 | simp only [add_at] at hx263_1 | simp only [Addr.add, Nat.zero_add] at hx263_1 | skip)
      (first | simp only [add_plain] at hx263_2 | simp only [add_at] at hx263_2 | simp only [Addr.add, Nat.zero_add] at hx263_2 | skip)
      replace p263 := eq_true p263
      replace q263 := eq_true q263
      have p103 : 0 ≤ (t247 : Int) := od_
      have q103 : (t247 : Int) < ((x240000_22.length : Int) : Int) := od_
      obtain ⟨ce103, hcl103, hM103, hcc103, hfr103⟩ := Kd.R_elem HO_240000.out z71 (t247 : Int) p103 q103
      obtain rfl := k71_openM hM103
      have hx103_0 : World.cell? _ ⟨go86, (t247 : Int).toNat * 3, none⟩ = some (.string ((rd_T71 y262 t247).f0)) := hcc103 0 _ rfl
      have hx103_1 : World.cell? _ ⟨go86, (t247 : Int).toNat * 3 + 1, none⟩ = some (.string ((rd_T71 y262 t247).f1)) := hcc103 1 _ rfl
      have hx103_2 : World.cell? _ ⟨go86, (t247 : Int).toNat * 3 + 2, none⟩ = some (.int .i64 ((rd_T71 y262 t247).f2)) := hcc103 2 _ rfl
      have hf103_0 : World.frozen? _ ⟨go86, (t247 : Int).toNat * 3, none⟩ = false := hfr103 0
      have hf103_1 : World.frozen? _ ⟨go86, (t247 : Int).toNat * 3 + 1, none⟩ = false := hfr103 1
      have hf103_2 : World.frozen? _ ⟨go86, (t247 : Int).toNat * 3 + 2, none⟩ = false := hfr103 2
      clear hcl103 hcc103 hfr103 hM103
      replace p103 := eq_true p103
      replace q103 := eq_true q103
      obtain ⟨ce113, hcl113, hM113, hcc113, hfr113⟩ := Kd.R_elem HO_240000.out z71 (t247 : Int) od_ (by have h_ : (t247 : Int) < ((x240000_22.length : Int) : Int) := od_; first | exact h_ | (have e_ := (Kd.R_reads' HO_240000.out).1; omega) | simpa using h_)
      obtain rfl := k71_openM hM113
      have HP113 := (Kd.R_seg HO_240000.out (t247 : Int) od_ (by have h_ : (t247 : Int) < ((x240000_22.length : Int) : Int) := od_; first | exact h_ | (have e_ := (Kd.R_reads' HO_240000.out).1; omega) | simpa using h_) (seg := [.int .i64 ji102]) (j := 2) hcl113 hcc113 (show 3 ≤ 3 from by decide) (x' := (⟨(rd_T71 y262 t247).f0, (rd_T71 y262 t247).f1, ji102⟩ : S71)) (k71_mkM _ _ _ (⟨(rd_T71 y262 t247).f0, (rd_T71 y262 t247).f1, ji102⟩ : S71) ) (fun _ hk => hk)).1
      rw [← Ny264.out] at HP113
      have HQ113 := a_ HP113
      clear hcl113 hcc113 hfr113 hM113 HP113
      refine start_ (n := 11) (S := fun w' => w'.cell? ⟨gb240, 0, none⟩ = some (.int .u8 a1_0) ∧ w'.cell? ⟨gb240, 1, none⟩ = some (.string a1_1) ∧ w'.cell? ⟨gb240, 2, none⟩ = some (.string a1_2) ∧ w'.cell? ⟨gb240, 3, none⟩ = some (.string a1_3) ∧ w'.cell? ⟨gb240, 4, none⟩ = some (.int .i64 a1_4) ∧ w'.cell? ⟨go86, (t247).toNat * 3, none⟩ = some (.string ((rd_T71 y262 t247).f0)) ∧ w'.cell? ⟨go86, (t247).toNat * 3 + 1, none⟩ = some (.string ((rd_T71 y262 t247).f1)) ∧ w'.cell? ⟨go86, (t247).toNat * 3 + 2, none⟩ = some (.int .i64 ((rd_T71 y262 t247).f2))) (ds := [10]) #[false, false, false, false, false, false, false, false, false, false, false] (by kernel_rfl) rfl rfl ⟨(blk_cell BK240.out 0).trans rfl, (blk_cell BK240.out 1).trans rfl, (blk_cell BK240.out 2).trans rfl, (blk_cell BK240.out 3).trans rfl, (blk_cell BK240.out 4).trans rfl, hx263_0, hx263_1, hx263_2⟩ (fun hHeld => ?_); refine with_tabW disk_done.tab26 disk_done.bits26 (fun HT_ HW_ => ?_)
      generalize w111.drew = w112 at HO_240000 BK239 BK240 BK241 HB HQ113 hf103_0 hf103_1 hf103_2 hx103_0 hx103_1 hx103_2 hx263_0 hx263_1 hx263_2 hHeld ⊢
      refine pu_ HT_ 0 (some 106) ?_
      refine pu_ HT_ 1 (some 107) ?_
      refine pu_ HT_ 2 (some 108) ?_
      refine pu_ HT_ 3 (some 109) ?_
      refine pu_ HT_ 5 (some 111) ?_
      refine take_ (i := 4) (N := some 110) (v := ?_) (a' := ?_) #[true, true, true, true, true, true, false, false, false, false, false] rfl rfl (take_ofW HT_.out HW_.out (by kernel_rfl)) (fun _ _ _ h => h) (Or.inl ⟨by rfl, ?_⟩) hHeld ?_ ?_
      rotate_left
      ·rintro w' ⟨s0, s1, s2, s3, s4, s5, s6, s7⟩
       go_simp
       with_reducible rfl
      rotate_left
      ·exact ap_
      refine take_ (i := 6) (N := some 112) (v := ?_) (a' := ?_) #[true, true, true, true, true, true, true, false, false, false, false] rfl rfl (take_ofW HT_.out HW_.out (by kernel_rfl)) (fun _ _ _ h => h) (Or.inl ⟨by rfl, ?_⟩) hHeld ?_ ?_
      rotate_left
      ·rintro w' ⟨s0, s1, s2, s3, s4, s5, s6, s7⟩
       go_simp
       with_reducible rfl
      rotate_left
      ·exact ap_
      refine pu_ HT_ 7 (some 113) ?_
      refine pu_ HT_ 8 (some 114) ?_
      refine pu_ HT_ 9 (some 115) ?_
      refine last_ (i := 10) (N := none) #[true, true, true, true, true, true, true, true, true, true, true] rfl rfl (one_of HT_.out (by kernel_rfl)) (by decide) (fun K hK => ?_)
      refine skip_ (w1 := ?_) (by rfl) rfl ?_ ?_
      rotate_left
      ·go_simp
       rfl
      refine hK.out _ _ ?_
      clear hK K
      refine done_ (done_of HT_.out (by kernel_rfl)) ?_
      have n0_ : Aside0 (Kd.R k71 71 (w112.setCell ⟨go86, (t247 : Int).toNat * 3 + 2, none⟩ (.int .i64 ji102)) w.heap.size (fun _ => True) (.slice (some ⟨go86, 0, none⟩) x240000_22.length co86) y264) := ⟨by refine rq_ ?_; exact HQ113.out⟩
      have n1_ : Aside0 ((w112.setCell ⟨go86, (t247 : Int).toNat * 3 + 2, none⟩ (.int .i64 ji102)).heap[gb239]? = some (.cells #[.slice (some ⟨go86, 0, none⟩) x240000_22.length co86, .bool false, .int .i64 x240002_75] 24 (0, 0))) := ⟨by refine bq_ ?_; refine blk_far ?_ (by have h_ := Kd.R_ne HO_240000.out BK239.out (by decide); intro e_; exact h_ (by rw [e_]; rfl)) _; refine bq_ ?_; exact BK239.out⟩
      have n2_ : Aside0 ((w112.setCell ⟨go86, (t247 : Int).toNat * 3 + 2, none⟩ (.int .i64 ji102)).heap[gb240]? = some (.cells #[.int .u8 a1_0, .string a1_1, .string a1_2, .string a1_3, .int .i64 a1_4] 115 (0, 0))) := ⟨by refine bq_ ?_; refine blk_far ?_ (by have h_ := Kd.R_ne HO_240000.out BK240.out (by decide); intro e_; exact h_ (by rw [e_]; rfl)) _; refine bq_ ?_; exact BK240.out⟩
      have n3_ : Aside0 ((w112.setCell ⟨go86, (t247 : Int).toNat * 3 + 2, none⟩ (.int .i64 ji102)).heap[gb241]? = some (.cells #[.slice none 0 0, .bool false, .int .i64 0] 24 (0, 0))) := ⟨by refine bq_ ?_; refine blk_far ?_ (by have h_ := Kd.R_ne HO_240000.out BK241.out (by decide); intro e_; exact h_ (by rw [e_]; rfl)) _; refine bq_ ?_; exact BK241.out⟩
      have n4_ : Aside0 (Below w.heap.size w (w112.setCell ⟨go86, (t247 : Int).toNat * 3 + 2, none⟩ (.int .i64 ji102))) := ⟨bl_4 HB GB86 GE239 GE240 GE241⟩
      (try clear HO_240000)
      (try clear BK239)
      (try clear BK240)
      (try clear BK241)
      (try clear HB)
      generalize (w112.setCell ⟨go86, (t247 : Int).toNat * 3 + 2, none⟩ (.int .i64 ji102)) = w114 at n0_ n1_ n2_ n3_ n4_ ⊢
      have HO_240000 := n0_
      have BK239 := n1_
      have BK240 := n2_
      have BK241 := n3_
      have HB := n4_
      clear n0_ n1_ n2_ n3_ n4_
      obtain ⟨hcz115_0, hcz115_1, hcz115_2, hfz115_0, hfz115_1, hfz115_2⟩ := c3_ BK239
      obtain ⟨hcz116_0, hcz116_1, hcz116_2, hfz116_0, hfz116_1, hfz116_2⟩ := c3_ BK241
      try go_wp2
      refine bodyPost_ret (results_ct rfl _ _ gb241 24 #[.slice (some ⟨go86, 0, none⟩) x240000_22.length co86, .bool false, .int .i64 x240002_75] (0, 0) _ rfl (bp_0 BK241) Try.underlying24 rfl (by kernel_rfl)) rfl ?_
      exact ⟨_, by first | rfl | (simp [errW_none, errW_some] <;> rfl) | (simp only [← hji102]; first | rfl | (simp [errW_none, errW_some] <;> rfl)) | (simp [*, errW_none, errW_some] <;> rfl), by refine rq_ ?_; exact Kd.R_mono (Kd.R_far (p := ⟨gb241, 2, none⟩) (Kd.R_far (p := ⟨gb241, 1, none⟩) (Kd.R_far (p := ⟨gb241, 0, none⟩) (Kd.R_types HO_240000.out BK241.out (by decide)) (fun _ hk => hk.2) (.slice (some ⟨go86, 0, none⟩) x240000_22.length co86)) (fun _ hk => hk.2) (.bool false)) (fun _ hk => hk.2) (.int .i64 x240002_75)) (fun _ hk => trivial), bl_3 HB GE239 GE240 GE241⟩
     rw [if_neg c98] at H
     have c98b0 : (a1_0 == 2) = false := beq_eq_false_iff_ne.mpr c98
     have c98b1 : (a1_0 != 2) = true := bne_iff_ne.mpr c98
     by_cases c117 : a1_0 = 4
     ·rw [if_pos c117] at H
      have c117b0 : (a1_0 == 4) = true := beq_iff_eq.mpr c117
      have c117b1 : (a1_0 != 4) = false := bne_eq_false_iff_eq.mpr c117
      clear c117
      obtain ⟨t265, A1180, H⟩ := Option.bind_eq_some_iff.mp H
      try dsimp only at H
      have A118 := a_ A1180
      clear A1180
      simp only [Option.some.injEq, Prod.mk.injEq] at H
      obtain ⟨rfl, rfl, rfl, rfl⟩ := H
      have hnb119 := NB239_240.out
      have hnc119 := NB240_239.out
      have hnb120 := NB239_241.out
      have hnc120 := NB241_239.out
      obtain ⟨hcz121_0, hcz121_1, hcz121_2, hfz121_0, hfz121_1, hfz121_2⟩ := c3_ BK239
      have p86 : 0 ≤ (t247 : Int) := od_
      have q86 : (t247 : Int) < ((x240000_22.length : Int) : Int) := od_
      obtain ⟨go86, co86, eo86, gb86, gl86, cl86, HG86⟩ := Kd.R_form HO_240000.out (by omega)
      (first | cases eo86 | (injection eo86 with ea_ en_ ec_; (first | subst ea_ | (injection ea_ with ea_; subst ea_)); subst ec_; clear en_))
      have GB86 := a_ gb86
      have GG86 := a_ HG86
      clear gb86 gl86 HG86
      obtain ⟨ce86, hcl86, hM86, hcc86, hfr86⟩ := Kd.R_elem HO_240000.out z71 (t247 : Int) p86 q86
      obtain rfl := k71_openM hM86
      have hx86_0 : wc.cell? ⟨go86, (t247 : Int).toNat * 3, none⟩ = some (.string ((rd_T71 x240000_22 t247).f0)) := hcc86 0 _ rfl
      have hx86_1 : wc.cell? ⟨go86, (t247 : Int).toNat * 3 + 1, none⟩ = some (.string ((rd_T71 x240000_22 t247).f1)) := hcc86 1 _ rfl
      have hx86_2 : wc.cell? ⟨go86, (t247 : Int).toNat * 3 + 2, none⟩ = some (.int .i64 ((rd_T71 x240000_22 t247).f2)) := hcc86 2 _ rfl
      have hf86_0 : wc.frozen? ⟨go86, (t247 : Int).toNat * 3, none⟩ = false := hfr86 0
      have hf86_1 : wc.frozen? ⟨go86, (t247 : Int).toNat * 3 + 1, none⟩ = false := hfr86 1
      have hf86_2 : wc.frozen? ⟨go86, (t247 : Int).toNat * 3 + 2, none⟩ = false := hfr86 2
      clear hcl86 hcc86 hfr86 hM86
      replace p86 := eq_true p86
      replace q86 := eq_true q86
      have hnb122 := NB240_241.out
      have hnc122 := NB241_240.out
      obtain ⟨hcz123_0, hcz123_1, hcz123_2, hcz123_3, hcz123_4, hfz123_0, hfz123_1, hfz123_2, hfz123_3, hfz123_4⟩ := c5_ BK240
      go_wp2_with (first | ((with_reducible refine gk_ 109 ?_); refine gl_ (some 123) Try.func109 #[.slice (some ⟨go86, 0, none⟩) x240000_22.length co86, .int .i64 t247, .int .i64 (wrap64 (t247 + 1))] ?_; (with_reducible refine (api_File_109.calls (fun k_ => some k_ = (.slice (some ⟨go86, 0, none⟩) x240000_22.length co86 : Value).ownBlock) (.slice (some ⟨go86, 0, none⟩) x240000_22.length co86) x240000_22 t247 (wrap64 (t247 + 1)) t265 w _ ?side1 ?side2 A118.out).mono ?_); (case side1 => repeat (first | (with_reducible first | exact HB.out | apply below_alloc | apply pw_below_drewN | apply below_drew1 | refine below_set ?_ GE239.out | refine below_set ?_ GE240.out | refine below_set ?_ GE241.out) | exact HB.out)); (case side2 => exact Kd.R_tight rfl HO_240000.out); rintro e w124 ⟨v266, rfl, ho0, hb, hkp⟩; refine ⟨_, rfl, ?_⟩; replace BK239 := a_ (blk_kept (bk_ BK239) hkp (fun hs_ => (fun e_ => (Kd.R_ne HO_240000.out BK239.out (by decide)) e_) hs_)); replace BK240 := a_ (blk_kept (bk_ BK240) hkp (fun hs_ => (fun e_ => (Kd.R_ne HO_240000.out BK240.out (by decide)) e_) hs_)); replace BK241 := a_ (blk_kept (bk_ BK241) hkp (fun hs_ => (fun e_ => (Kd.R_ne HO_240000.out BK241.out (by decide)) e_) hs_)); have HO267 := a_ (Kd.R_mono (ok' := fun k_ => True) ho0 (fun k_ hk_ => trivial)); replace HB := a_ (hb); clear HO_240000; (try clear hb); (try clear hkp); (try clear ho0); obtain ⟨Ao125, co125, eo125⟩ := Kd.R_slice HO267.out; subst eo125; obtain ⟨hcz126_0, hcz126_1, hcz126_2, hfz126_0, hfz126_1, hfz126_2⟩ := c3_ BK239; obtain ⟨hcz127_0, hcz127_1, hcz127_2, hfz127_0, hfz127_1, hfz127_2⟩ := c3_ BK241))
      refine bodyPost_ret (results_ct rfl _ _ gb241 24 #[.slice Ao125 t265.length co125, .bool false, .int .i64 x240002_75] (0, 0) _ rfl (bp_1 BK241 NB241_239) Try.underlying24 rfl (by kernel_rfl)) rfl ?_
      exact ⟨_, fz_, by refine rq_ ?_; exact Kd.R_mono (Kd.R_far (p := ⟨gb241, 2, none⟩) (Kd.R_far (p := ⟨gb241, 1, none⟩) (Kd.R_far (p := ⟨gb241, 0, none⟩) (Kd.R_far (p := ⟨gb239, 0, none⟩) (Kd.R_types (Kd.R_types HO267.out BK239.out (by decide)) BK241.out (by decide)) (fun _ hk => hk.1.2) (.slice Ao125 t265.length co125)) (fun _ hk => hk.2) (.slice Ao125 t265.length co125)) (fun _ hk => hk.2) (.bool false)) (fun _ hk => hk.2) (.int .i64 x240002_75)) (fun _ hk => trivial), bl_3 HB GE239 GE240 GE241⟩
     rw [if_neg c117] at H
     have c117b0 : (a1_0 == 4) = false := beq_eq_false_iff_ne.mpr c117
     have c117b1 : (a1_0 != 4) = true := bne_iff_ne.mpr c117
     by_cases c128 : a1_0 = 3
     rotate_left
     ·rw [if_neg c128] at H
      have c128b0 : (a1_0 == 3) = false := beq_eq_false_iff_ne.mpr c128
      have c128b1 : (a1_0 != 3) = true := bne_iff_ne.mpr c128
      simp only [Option.some.injEq, Prod.mk.injEq] at H
      obtain ⟨rfl, rfl, rfl, rfl⟩ := H
      have hnb191 := NB239_240.out
      have hnc191 := NB240_239.out
      have hnb192 := NB239_241.out
      have hnc192 := NB241_239.out
      obtain ⟨hcz193_0, hcz193_1, hcz193_2, hfz193_0, hfz193_1, hfz193_2⟩ := c3_ BK239
      have p86 : 0 ≤ (t247 : Int) := od_
      have q86 : (t247 : Int) < ((x240000_22.length : Int) : Int) := od_
      obtain ⟨go86, co86, eo86, gb86, gl86, cl86, HG86⟩ := Kd.R_form HO_240000.out (by omega)
      (first | cases eo86 | (injection eo86 with ea_ en_ ec_; (first | subst ea_ | (injection ea_ with ea_; subst ea_)); subst ec_; clear en_))
      have GB86 := a_ gb86
      have GG86 := a_ HG86
      clear gb86 gl86 HG86
      obtain ⟨ce86, hcl86, hM86, hcc86, hfr86⟩ := Kd.R_elem HO_240000.out z71 (t247 : Int) p86 q86
      obtain rfl := k71_openM hM86
      have hx86_0 : wc.cell? ⟨go86, (t247 : Int).toNat * 3, none⟩ = some (.string ((rd_T71 x240000_22 t247).f0)) := hcc86 0 _ rfl
      have hx86_1 : wc.cell? ⟨go86, (t247 : Int).toNat * 3 + 1, none⟩ = some (.string ((rd_T71 x240000_22 t247).f1)) := hcc86 1 _ rfl
      have hx86_2 : wc.cell? ⟨go86, (t247 : Int).toNat * 3 + 2, none⟩ = some (.int .i64 ((rd_T71 x240000_22 t247).f2)) := hcc86 2 _ rfl
      have hf86_0 : wc.frozen? ⟨go86, (t247 : Int).toNat * 3, none⟩ = false := hfr86 0
      have hf86_1 : wc.frozen? ⟨go86, (t247 : Int).toNat * 3 + 1, none⟩ = false := hfr86 1
      have hf86_2 : wc.frozen? ⟨go86, (t247 : Int).toNat * 3 + 2, none⟩ = false := hfr86 2
      clear hcl86 hcc86 hfr86 hM86
      replace p86 := eq_true p86
      replace q86 := eq_true q86
      have hnb194 := NB240_241.out
      have hnc194 := NB241_240.out
      obtain ⟨hcz195_0, hcz195_1, hcz195_2, hcz195_3, hcz195_4, hfz195_0, hfz195_1, hfz195_2, hfz195_3, hfz195_4⟩ := c5_ BK240
      obtain ⟨hcz196_0, hcz196_1, hcz196_2, hfz196_0, hfz196_1, hfz196_2⟩ := c3_ BK241
      go_wp2
      refine bodyPost_ret (results_ct rfl _ _ gb241 24 #[.slice (some ⟨go86, 0, none⟩) x240000_22.length co86, .bool false, .int .i64 x240002_75] (0, 0) _ rfl (bp_0 BK241) Try.underlying24 rfl (by kernel_rfl)) rfl ?_
      exact ⟨_, fz_, by refine rq_ ?_; exact Kd.R_mono (Kd.R_far (p := ⟨gb241, 2, none⟩) (Kd.R_far (p := ⟨gb241, 1, none⟩) (Kd.R_far (p := ⟨gb241, 0, none⟩) (Kd.R_types HO_240000.out BK241.out (by decide)) (fun _ hk => hk.2) (.slice (some ⟨go86, 0, none⟩) x240000_22.length co86)) (fun _ hk => hk.2) (.bool false)) (fun _ hk => hk.2) (.int .i64 x240002_75)) (fun _ hk => trivial), bl_3 HB GE239 GE240 GE241⟩
     rw [if_pos c128] at H
     have c128b0 : (a1_0 == 3) = true := beq_iff_eq.mpr c128
     have c128b1 : (a1_0 != 3) = false := bne_eq_false_iff_eq.mpr c128
     clear c128
     obtain ⟨t270, A1290, H⟩ := Option.bind_eq_some_iff.mp H
     try dsimp only at H
     have A129 := a_ A1290
     clear A1290
     obtain ⟨⟨t273, t274⟩, A1300, H⟩ := Option.bind_eq_some_iff.mp H
     try dsimp only at H
     have A130 := a_ A1300
     clear A1300
     by_cases c131 : t274 = true
     rotate_left
     ·replace c131 := Bool.eq_false_iff.mpr c131
      subst c131
      have H1 : ((api_File_108.f t270 t273 (([(⟨a1_2, (rd_T71 x240000_22 t247).f1, (rd_T71 x240000_22 t247).f2⟩ : S71)] : List (S71)))).bind fun t279 => (some (t279, false, x240002_75, 0))) = some (r1, r2, r3, r4) := by rw [if_neg (show ¬ (false = true) by decide)] at H; exact H
      clear H
      have H := H1
      clear H1
      obtain ⟨y276, hy276⟩ : ∃ y_ : List (S71), y_ = (([(⟨a1_2, (rd_T71 x240000_22 t247).f1, (rd_T71 x240000_22 t247).f2⟩ : S71)] : List (S71))) := ⟨_, rfl⟩
      replace H : ((api_File_108.f t270 t273 y276).bind fun t279 => (some (t279, false, x240002_75, 0))) = some (r1, r2, r3, r4) := by first | (rw [hy276]; with_reducible exact H) | (have H2_ := (Option.bind_some _ _).symm.trans H; rw [hy276]; with_reducible exact H2_) | (have H2_ := (Option.bind_some _ _).symm.trans H; with_reducible exact H2_) | with_reducible exact H | (rw [hy276]; exact H) | exact H
      have Ny276 := a_ hy276
      clear hy276
      obtain ⟨t279, A1610, H⟩ := Option.bind_eq_some_iff.mp H
      try dsimp only at H
      have A161 := a_ A1610
      clear A1610
      simp only [Option.some.injEq, Prod.mk.injEq] at H
      obtain ⟨rfl, rfl, rfl, rfl⟩ := H
      have hnb162 := NB239_240.out
      have hnc162 := NB240_239.out
      have hnb163 := NB239_241.out
      have hnc163 := NB241_239.out
      obtain ⟨hcz164_0, hcz164_1, hcz164_2, hfz164_0, hfz164_1, hfz164_2⟩ := c3_ BK239
      have p86 : 0 ≤ (t247 : Int) := od_
      have q86 : (t247 : Int) < ((x240000_22.length : Int) : Int) := od_
      obtain ⟨go86, co86, eo86, gb86, gl86, cl86, HG86⟩ := Kd.R_form HO_240000.out (by omega)
      (first | cases eo86 | (injection eo86 with ea_ en_ ec_; (first | subst ea_ | (injection ea_ with ea_; subst ea_)); subst ec_; clear en_))
      have GB86 := a_ gb86
      have GG86 := a_ HG86
      clear gb86 gl86 HG86
      obtain ⟨ce86, hcl86, hM86, hcc86, hfr86⟩ := Kd.R_elem HO_240000.out z71 (t247 : Int) p86 q86
      obtain rfl := k71_openM hM86
      have hx86_0 : wc.cell? ⟨go86, (t247 : Int).toNat * 3, none⟩ = some (.string ((rd_T71 x240000_22 t247).f0)) := hcc86 0 _ rfl
      have hx86_1 : wc.cell? ⟨go86, (t247 : Int).toNat * 3 + 1, none⟩ = some (.string ((rd_T71 x240000_22 t247).f1)) := hcc86 1 _ rfl
      have hx86_2 : wc.cell? ⟨go86, (t247 : Int).toNat * 3 + 2, none⟩ = some (.int .i64 ((rd_T71 x240000_22 t247).f2)) := hcc86 2 _ rfl
      have hf86_0 : wc.frozen? ⟨go86, (t247 : Int).toNat * 3, none⟩ = false := hfr86 0
      have hf86_1 : wc.frozen? ⟨go86, (t247 : Int).toNat * 3 + 1, none⟩ = false := hfr86 1
      have hf86_2 : wc.frozen? ⟨go86, (t247 : Int).toNat * 3 + 2, none⟩ = false := hfr86 2
      clear hcl86 hcc86 hfr86 hM86
      replace p86 := eq_true p86
      replace q86 := eq_true q86
      have hnb165 := NB240_241.out
      have hnc165 := NB241_240.out
      obtain ⟨hcz166_0, hcz166_1, hcz166_2, hcz166_3, hcz166_4, hfz166_0, hfz166_1, hfz166_2, hfz166_3, hfz166_4⟩ := c5_ BK240
      have p268 : 0 ≤ (t247 : Int) := od_
      have q268 : t247 < (x240000_22.length : Int) := od_
      obtain ⟨ad268, e268, hx268_0, hx268_1, hx268_2⟩ := at_T71 (Kd.R_reads' HO_240000.out).2.2 t247 p268 q268
      obtain rfl : (⟨go86, 0, none⟩ : Addr) = ad268 := (by injection e268)
      (first | simp only [add_plain] at hx268_0 | simp only [add_at] at hx268_0 | simp only [Addr.add, Nat.zero_add] at hx268_0 | skip)
      (first | simp only [add_plain] at hx268_1 | simp only [add_at] at hx268_1 | simp only [Addr.add, Nat.zero_add] at hx268_1 | skip)
      (first | simp only [add_plain] at hx268_2 | simp only [add_at] at hx268_2 | simp only [Addr.add, Nat.zero_add] at hx268_2 | skip)
      replace p268 := eq_true p268
      replace q268 := eq_true q268
      go_wp2_with (first | ((with_reducible refine gd_ 11 ?_); refine bx_ 11 #[.string (⟨#[]⟩ : ByteArray), .string (⟨#[]⟩ : ByteArray), .int .i64 0] 71 ?_; intro gb269 hg w167 hbox hb; replace HO_240000 := a_ (Kd.R_below (Kd.R_elderB (by refine rq_ ?_; exact HO_240000.out) gb269 (Nat.le_of_eq hg.symm)) hb); have BK269 := a_ (hbox); have GE269 := a_ (bs_3 hg HB GE239 GE240 GE241); replace HB := hB_ (bl_3 HB GE239 GE240 GE241) hb; have NB239_269 := nB_ hg BK239; have NB269_239 := nC_ hg BK239; replace BK239 := bB_ BK239 hb; have NB240_269 := nB_ hg BK240; have NB269_240 := nC_ hg BK240; replace BK240 := bB_ BK240 hb; have NB241_269 := nB_ hg BK241; have NB269_241 := nC_ hg BK241; replace BK241 := bB_ BK241 hb; clear hb hbox hg; have hnb168 := NB269_239.out; have hnc168 := NB239_269.out; have hnb169 := NB269_240.out; have hnc169 := NB240_269.out; have hnb170 := NB269_241.out; have hnc170 := NB241_269.out; obtain ⟨hcz171_0, hcz171_1, hcz171_2, hfz171_0, hfz171_1, hfz171_2⟩ := c3_ BK269) | ((with_reducible refine gate_store (t := 71) (p := 11) rfl ?_); refine store_event (t := 71) (p := 11) (v := ?vo_w172) (w1 := (((w167.setCell ⟨gb269, 0, none⟩ (.string ((rd_T71 x240000_22 t247).f0))).setCell ⟨gb269, 1, none⟩ (.string ((rd_T71 x240000_22 t247).f1))).setCell ⟨gb269, 2, none⟩ (.int .i64 ((rd_T71 x240000_22 t247).f2)))) ?hg ?ho ?hn ?hr ?_; (case ho => rfl); (case hg => rfl); (case hn => rfl); (case hr => first | (go_simp; done) | (go_simp; rfl)); intro w172 hw; have n0_ : Aside0 (Kd.R k71 71 w172 w.heap.size (fun k_ => k_ ≠ gb269) (.slice (some ⟨go86, 0, none⟩) x240000_22.length co86) x240000_22) := ⟨(by rw [hw]; exact (by refine rq_ ?_; exact Kd.R_mono (Kd.R_far (p := ⟨gb269, 2, none⟩) (Kd.R_far (p := ⟨gb269, 1, none⟩) (Kd.R_far (p := ⟨gb269, 0, none⟩) (Kd.R_mono HO_240000.out (fun k_ hk => (⟨hk, hk.2⟩ : _ ∧ k_ ≠ gb269))) (fun _ hk => hk.2) (.string ((rd_T71 x240000_22 t247).f0))) (fun _ hk => hk.2) (.string ((rd_T71 x240000_22 t247).f1))) (fun _ hk => hk.2) (.int .i64 ((rd_T71 x240000_22 t247).f2))) (fun _ hk => hk.1.2)))⟩; have n1_ : Aside0 (w172.heap[gb239]? = some (.cells #[.slice (some ⟨go86, 0, none⟩) x240000_22.length co86, .bool false, .int .i64 x240002_75] 24 (0, 0))) := ⟨(by rw [hw]; exact (bp_1 BK239 NB239_269))⟩; have n2_ : Aside0 (w172.heap[gb240]? = some (.cells #[.int .u8 a1_0, .string a1_1, .string a1_2, .string a1_3, .int .i64 a1_4] 115 (0, 0))) := ⟨(by rw [hw]; exact (bp_1 BK240 NB240_269))⟩; have n3_ : Aside0 (w172.heap[gb241]? = some (.cells #[.slice none 0 0, .bool false, .int .i64 0] 24 (0, 0))) := ⟨(by rw [hw]; exact (bp_1 BK241 NB241_269))⟩; have n4_ : Aside0 (w172.heap[gb269]? = some (.cells #[.string ((rd_T71 x240000_22 t247).f0), .string ((rd_T71 x240000_22 t247).f1), .int .i64 ((rd_T71 x240000_22 t247).f2)] 71 (0, 0))) := ⟨(by rw [hw]; exact (bp_0 BK269))⟩; have n5_ : Aside0 (Below w.heap.size w w172) := ⟨(by rw [hw]; exact (bl_4 HB GE239 GE240 GE241 GE269))⟩; clear hw; clear HO_240000; clear BK239; clear BK240; clear BK241; clear BK269; clear HB; have HO_240000 := n0_; have BK239 := n1_; have BK240 := n2_; have BK241 := n3_; have BK269 := n4_; have HB := n5_; clear n0_ n1_ n2_ n3_ n4_ n5_; obtain ⟨hcz173_0, hcz173_1, hcz173_2, hcz173_3, hcz173_4, hfz173_0, hfz173_1, hfz173_2, hfz173_3, hfz173_4⟩ := c5_ BK240; obtain ⟨hcz174_0, hcz174_1, hcz174_2, hfz174_0, hfz174_1, hfz174_2⟩ := c3_ BK269) | ((with_reducible refine gate_store (t := 9) (p := 132) rfl ?_); refine store_event (t := 9) (p := 132) (v := ?vo_w175) (w1 := (w172.setCell ⟨gb269, 0, none⟩ (.string a1_2))) ?hg ?ho ?hn ?hr ?_; (case ho => rfl); (case hg => rfl); (case hn => rfl); (case hr => first | (go_simp; done) | (go_simp; rfl)); intro w175 hw; have n0_ : Aside0 (Kd.R k71 71 w175 w.heap.size (fun k_ => k_ ≠ gb269) (.slice (some ⟨go86, 0, none⟩) x240000_22.length co86) x240000_22) := ⟨(by rw [hw]; exact (by refine rq_ ?_; exact Kd.R_mono (Kd.R_far (p := ⟨gb269, 0, none⟩) (Kd.R_mono HO_240000.out (fun k_ hk => (⟨hk, hk⟩ : _ ∧ k_ ≠ gb269))) (fun _ hk => hk.2) (.string a1_2)) (fun _ hk => hk.1)))⟩; have n1_ : Aside0 (w175.heap[gb239]? = some (.cells #[.slice (some ⟨go86, 0, none⟩) x240000_22.length co86, .bool false, .int .i64 x240002_75] 24 (0, 0))) := ⟨(by rw [hw]; exact (bp_1 BK239 NB239_269))⟩; have n2_ : Aside0 (w175.heap[gb240]? = some (.cells #[.int .u8 a1_0, .string a1_1, .string a1_2, .string a1_3, .int .i64 a1_4] 115 (0, 0))) := ⟨(by rw [hw]; exact (bp_1 BK240 NB240_269))⟩; have n3_ : Aside0 (w175.heap[gb241]? = some (.cells #[.slice none 0 0, .bool false, .int .i64 0] 24 (0, 0))) := ⟨(by rw [hw]; exact (bp_1 BK241 NB241_269))⟩; have n4_ : Aside0 (w175.heap[gb269]? = some (.cells #[.string a1_2, .string ((rd_T71 x240000_22 t247).f1), .int .i64 ((rd_T71 x240000_22 t247).f2)] 71 (0, 0))) := ⟨(by rw [hw]; exact (bp_0 BK269))⟩; have n5_ : Aside0 (Below w.heap.size w w175) := ⟨(by rw [hw]; exact (bl_4 HB GE239 GE240 GE241 GE269))⟩; clear hw; clear HO_240000; clear BK239; clear BK240; clear BK241; clear BK269; clear HB; have HO_240000 := n0_; have BK239 := n1_; have BK240 := n2_; have BK241 := n3_; have BK269 := n4_; have HB := n5_; clear n0_ n1_ n2_ n3_ n4_ n5_; obtain ⟨hcz176_0, hcz176_1, hcz176_2, hfz176_0, hfz176_1, hfz176_2⟩ := c3_ BK239) | ((with_reducible refine gk_ 109 ?_); refine gl_ (some 138) Try.func109 #[.slice (some ⟨go86, 0, none⟩) x240000_22.length co86, .int .i64 t247, .int .i64 (wrap64 (t247 + 1))] ?_; (with_reducible refine (api_File_109.calls (fun k_ => some k_ = (.slice (some ⟨go86, 0, none⟩) x240000_22.length co86 : Value).ownBlock) (.slice (some ⟨go86, 0, none⟩) x240000_22.length co86) x240000_22 t247 (wrap64 (t247 + 1)) t270 w _ ?side1 ?side2 A129.out).mono ?_); (case side1 => repeat (first | (with_reducible first | exact HB.out | apply below_alloc | apply pw_below_drewN | apply below_drew1 | refine below_set ?_ GE239.out | refine below_set ?_ GE240.out | refine below_set ?_ GE241.out | refine below_set ?_ GE269.out) | exact HB.out)); (case side2 => exact Kd.R_tight rfl HO_240000.out); rintro e w177 ⟨v271, rfl, ho0, hb, hkp⟩; refine ⟨_, rfl, ?_⟩; replace BK239 := a_ (blk_kept (bk_ BK239) hkp (fun hs_ => (fun e_ => (Kd.R_ne HO_240000.out BK239.out (by decide)) e_) hs_)); replace BK240 := a_ (blk_kept (bk_ BK240) hkp (fun hs_ => (fun e_ => (Kd.R_ne HO_240000.out BK240.out (by decide)) e_) hs_)); replace BK241 := a_ (blk_kept (bk_ BK241) hkp (fun hs_ => (fun e_ => (Kd.R_ne HO_240000.out BK241.out (by decide)) e_) hs_)); have HO272 := a_ (Kd.R_mono (ok' := fun k_ => k_ ≠ gb269) ho0 (fun k_ hk_ => Or.elim hk_ (fun hs_ => fun e_ => (Kd.R_away HO_240000.out (fun _ hk => hk)) (by rw [← e_]; exact hs_)) (fun hn_ => (Kd.freshB (g := gb269) (o := .cells #[.string a1_2, .string ((rd_T71 x240000_22 t247).f1), .int .i64 ((rd_T71 x240000_22 t247).f2)] 71 (0, 0)) (bk_ BK269) k_ hn_)))); replace BK269 := a_ (blk_kept (bk_ BK269) hkp (fun hs_ => (fun e_ => (Kd.R_away HO_240000.out (fun _ hk => hk)) e_) hs_)); replace HB := a_ (hb); clear HO_240000; (try clear hb); (try clear hkp); (try clear ho0); obtain ⟨Ao178, co178, eo178⟩ := Kd.R_slice HO272.out; subst eo178; obtain ⟨hcz179_0, hcz179_1, hcz179_2, hfz179_0, hfz179_1, hfz179_2⟩ := c3_ BK239; obtain ⟨hcz180_0, hcz180_1, hcz180_2, hcz180_3, hcz180_4, hfz180_0, hfz180_1, hfz180_2, hfz180_3, hfz180_4⟩ := c5_ BK240) | ((with_reducible refine gk_ 50 ?_); refine gl_ (some 144) Try.func50 #[.agg #[.slice Ao178 t270.length co178, .bool false, .int .i64 x240002_75], .string a1_2] ?_; (with_reducible refine (disk_place.calls kj75 _ _ t270 false x240002_75 a1_2 t273 false _ ?side1 ?side2 A130.out).mono ?_); (case side1 => refine (Kd.R_reads' (e := 71) (base := w.heap.size) (ok := fun k_ => k_ ≠ gb269) (n := t270.length) (c := co178) ?_).2.2; exact (by refine rq_ ?_; exact (Kd.R_mono (Kd.R_far (p := ⟨gb239, 0, none⟩) (Kd.R_types HO272.out BK239.out (by decide)) (fun _ hk => hk.2) (.slice Ao178 t270.length co178)) (fun _ h_ => h_.1)))); (case side2 => exact (Kd.R_reads' HO272.out).2.1); rintro e w181 ⟨rfl, hb⟩; refine ⟨_, rfl, ?_⟩; replace HO272 := a_ (Kd.R_below (by refine rq_ ?_; exact (Kd.R_mono (Kd.R_far (p := ⟨gb239, 0, none⟩) (Kd.R_types HO272.out BK239.out (by decide)) (fun _ hk => hk.2) (.slice Ao178 t270.length co178)) (fun _ h_ => h_.1))) hb); replace BK239 := a_ (blk_below (g := gb239) (o := .cells #[.slice Ao178 t270.length co178, .bool false, .int .i64 x240002_75] 24 (0, 0)) (bp_0 BK239) hb); replace BK240 := a_ (blk_below (g := gb240) (o := .cells #[.int .u8 a1_0, .string a1_1, .string a1_2, .string a1_3, .int .i64 a1_4] 115 (0, 0)) (bp_1 BK240 NB240_239) hb); replace BK241 := a_ (blk_below (g := gb241) (o := .cells #[.slice none 0 0, .bool false, .int .i64 0] 24 (0, 0)) (bp_1 BK241 NB241_239) hb); replace BK269 := a_ (blk_below (g := gb269) (o := .cells #[.string a1_2, .string ((rd_T71 x240000_22 t247).f1), .int .i64 ((rd_T71 x240000_22 t247).f2)] 71 (0, 0)) (bp_1 BK269 NB269_239) hb); replace HB := hB_ (bl_4 HB GE239 GE240 GE241 GE269) hb; (try clear hb); obtain ⟨hcz182_0, hcz182_1, hcz182_2, hfz182_0, hfz182_1, hfz182_2⟩ := c3_ BK239; obtain ⟨hcz183_0, hcz183_1, hcz183_2, hfz183_0, hfz183_1, hfz183_2⟩ := c3_ BK269) | ((with_reducible refine gd_ 157 ?_); refine Kd.R_lit k71 _ 71 ?hg (N := 157) ?hd (xs := ([(⟨a1_2, (rd_T71 x240000_22 t247).f1, (rd_T71 x240000_22 t247).f2⟩ : S71)] : List (S71))) (inner := [.string a1_2, .string ((rd_T71 x240000_22 t247).f1), .int .i64 ((rd_T71 x240000_22 t247).f2)]) (ok := fun _ => True) (okp := fun _ => True) ?hr ?hp (fun _ hk => hk) trivial (Below.refl _ _) (Nat.le_refl _) (by simp) ?_; (case hd => rfl); (case hg => rfl); (case hr => first | (go_simp; done) | (go_simp; rfl)); (case hp => exact (Reps.c3 (show Kd.M k71 _ _ _ (⟨a1_2, (rd_T71 x240000_22 t247).f1, (rd_T71 x240000_22 t247).f2⟩ : S71) [.string a1_2, .string ((rd_T71 x240000_22 t247).f1), .int .i64 ((rd_T71 x240000_22 t247).f2)] from (k71_mkM _ _ _ (⟨a1_2, (rd_T71 x240000_22 t247).f1, (rd_T71 x240000_22 t247).f2⟩ : S71) )) (Reps.none _ _))); intro v277 w184 ho185 hb hg_ hnew_; clear hg_ hnew_; (first | rw [← Ny276.out] at ho185 | (simp only [Int.reduceToNat] at ho185; rw [← Ny276.out] at ho185)); have HO278 := a_ (Kd.R_lower (Kd.R_newB (Kd.R_new' ho185 (Kd.R_lt (by refine rq_ ?_; exact HO272.out))) (g := gb269) (o := .cells #[.string a1_2, .string ((rd_T71 x240000_22 t247).f1), .int .i64 ((rd_T71 x240000_22 t247).f2)] 71 (0, 0)) (bk_ BK269)) (below_size (bl_4 HB GE239 GE240 GE241 GE269))); replace HO272 := a_ (Kd.R_elder' (by refine rq_ ?_; exact HO272.out) (Kd.R_base ho185) hb); replace BK239 := bB_ BK239 hb; replace BK240 := bB_ BK240 hb; replace BK241 := bB_ BK241 hb; replace BK269 := bB_ BK269 hb; replace HB := hB_ (bl_4 HB GE239 GE240 GE241 GE269) hb; clear hb ho185; obtain ⟨Ao186, co186, eo186⟩ := Kd.R_slice HO278.out; subst eo186) | ((with_reducible refine gk_ 108 ?_); refine gl_ (some 158) Try.func108 #[.slice Ao178 t270.length co178, .int .i64 t273, .slice Ao186 y276.length co186] ?_; (with_reducible refine (api_File_108.calls (fun k_ => some k_ = (.slice Ao178 t270.length co178 : Value).ownBlock) (.slice Ao178 t270.length co178) t270 t273 (fun k_ => some k_ = (.slice Ao186 y276.length co186 : Value).ownBlock) (.slice Ao186 y276.length co186) y276 t279 w _ ?side1 ?side2 ?side3 ?side4 ?side5 A161.out).mono ?_); (case side1 => repeat (first | (with_reducible first | exact HB.out | apply below_alloc | apply pw_below_drewN | apply below_drew1 | refine below_set ?_ GE239.out | refine below_set ?_ GE240.out | refine below_set ?_ GE241.out | refine below_set ?_ GE269.out) | exact HB.out)); (case side2 => exact Kd.R_tight rfl HO272.out); (case side3 => exact fun k_ e_ => (HO272.out.1 k_ e_.symm).2); (case side4 => exact Kd.R_tight rfl HO278.out); (case side5 => exact fun k_ e_ => (HO278.out.1 k_ e_.symm).1.2); rintro e w187 ⟨v280, rfl, ho0, hb, hkp⟩; refine ⟨_, rfl, ?_⟩; replace BK239 := a_ (blk_kept (bk_ BK239) hkp (fun hs_ => Or.elim hs_ (fun e_ => (fun e_ => (Kd.R_ne HO272.out BK239.out (by decide)) e_) e_) (fun e_ => (fun e_ => (Kd.R_ne HO278.out BK239.out (by decide)) e_) e_))); replace BK240 := a_ (blk_kept (bk_ BK240) hkp (fun hs_ => Or.elim hs_ (fun e_ => (fun e_ => (Kd.R_ne HO272.out BK240.out (by decide)) e_) e_) (fun e_ => (fun e_ => (Kd.R_ne HO278.out BK240.out (by decide)) e_) e_))); replace BK241 := a_ (blk_kept (bk_ BK241) hkp (fun hs_ => Or.elim hs_ (fun e_ => (fun e_ => (Kd.R_ne HO272.out BK241.out (by decide)) e_) e_) (fun e_ => (fun e_ => (Kd.R_ne HO278.out BK241.out (by decide)) e_) e_))); have HO281 := a_ (Kd.R_mono (ok' := fun k_ => k_ ≠ gb269) ho0 (fun k_ hk_ => Or.elim hk_ (fun hs_ => Or.elim hs_ (fun hs_ => fun e_ => (Kd.R_away HO272.out (fun _ hk => hk.1)) (by rw [← e_]; exact hs_)) (fun hs_ => fun e_ => (Kd.R_away HO278.out (fun _ hk => hk.2)) (by rw [← e_]; exact hs_))) (fun hn_ => (Kd.freshB (g := gb269) (o := .cells #[.string a1_2, .string ((rd_T71 x240000_22 t247).f1), .int .i64 ((rd_T71 x240000_22 t247).f2)] 71 (0, 0)) (bk_ BK269) k_ hn_)))); replace BK269 := a_ (blk_kept (bk_ BK269) hkp (fun hs_ => Or.elim hs_ (fun e_ => (fun e_ => (Kd.R_away HO272.out (fun _ hk => hk.1)) e_) e_) (fun e_ => (fun e_ => (Kd.R_away HO278.out (fun _ hk => hk.2)) e_) e_))); replace HB := a_ (hb); clear HO272; clear HO278; (try clear hb); (try clear hkp); (try clear ho0); obtain ⟨Ao188, co188, eo188⟩ := Kd.R_slice HO281.out; subst eo188; obtain ⟨hcz189_0, hcz189_1, hcz189_2, hfz189_0, hfz189_1, hfz189_2⟩ := c3_ BK239; obtain ⟨hcz190_0, hcz190_1, hcz190_2, hfz190_0, hfz190_1, hfz190_2⟩ := c3_ BK241))
      refine bodyPost_ret (results_ct rfl _ _ gb241 24 #[.slice Ao188 t279.length co188, .bool false, .int .i64 x240002_75] (0, 0) _ rfl (bp_1 BK241 NB241_239) Try.underlying24 rfl (by kernel_rfl)) rfl ?_
      exact ⟨_, fz_, by refine rq_ ?_; exact Kd.R_mono (Kd.R_far (p := ⟨gb241, 2, none⟩) (Kd.R_far (p := ⟨gb241, 1, none⟩) (Kd.R_far (p := ⟨gb241, 0, none⟩) (Kd.R_far (p := ⟨gb239, 0, none⟩) (Kd.R_types (Kd.R_types HO281.out BK239.out (by decide)) BK241.out (by decide)) (fun _ hk => hk.1.2) (.slice Ao188 t279.length co188)) (fun _ hk => hk.2) (.slice Ao188 t279.length co188)) (fun _ hk => hk.2) (.bool false)) (fun _ hk => hk.2) (.int .i64 x240002_75)) (fun _ hk => trivial), bl_4 HB GE239 GE240 GE241 GE269⟩
     subst c131
     have H1 : (if 0 ≤ t273 then (if t273 < (t270.length : Int) then (some ((t270.set (t273 : Int).toNat (⟨a1_2, (rd_T71 x240000_22 t247).f1, (rd_T71 x240000_22 t247).f2⟩ : S71)), false, x240002_75, 0)) else (none)) else (none)) = some (r1, r2, r3, r4) := by rw [if_pos rfl] at H; exact H
     clear H
     have H := H1
     clear H1
     by_cases c132 : 0 ≤ t273
     rotate_left
     ·rw [if_neg c132] at H
      exact absurd H (by simp)
     rw [if_pos c132] at H
     have c132b0 : decide (0 ≤ t273) = true := decide_eq_true c132
     clear c132
     by_cases c133 : t273 < (t270.length : Int)
     rotate_left
     ·rw [if_neg c133] at H
      exact absurd H (by simp)
     rw [if_pos c133] at H
     have c133b0 : decide (t273 < (t270.length : Int)) = true := decide_eq_true c133
     clear c133
     obtain ⟨y275, hy275⟩ : ∃ y_ : List (S71), y_ = (t270.set (t273 : Int).toNat (⟨a1_2, (rd_T71 x240000_22 t247).f1, (rd_T71 x240000_22 t247).f2⟩ : S71)) := ⟨_, rfl⟩
     replace H : (some (y275, false, x240002_75, 0)) = some (r1, r2, r3, r4) := by first | (rw [hy275]; with_reducible exact H) | (have H2_ := (Option.bind_some _ _).symm.trans H; rw [hy275]; with_reducible exact H2_) | (have H2_ := (Option.bind_some _ _).symm.trans H; with_reducible exact H2_) | with_reducible exact H | (rw [hy275]; exact H) | exact H
     have Ny275 := a_ hy275
     clear hy275
     simp only [Option.some.injEq, Prod.mk.injEq] at H
     obtain ⟨rfl, rfl, rfl, rfl⟩ := H
     have hnb135 := NB239_240.out
     have hnc135 := NB240_239.out
     have hnb136 := NB239_241.out
     have hnc136 := NB241_239.out
     obtain ⟨hcz137_0, hcz137_1, hcz137_2, hfz137_0, hfz137_1, hfz137_2⟩ := c3_ BK239
     have p86 : 0 ≤ (t247 : Int) := od_
     have q86 : (t247 : Int) < ((x240000_22.length : Int) : Int) := od_
     obtain ⟨go86, co86, eo86, gb86, gl86, cl86, HG86⟩ := Kd.R_form HO_240000.out (by omega)
     (first | cases eo86 | (injection eo86 with ea_ en_ ec_; (first | subst ea_ | (injection ea_ with ea_; subst ea_)); subst ec_; clear en_))
     have GB86 := a_ gb86
     have GG86 := a_ HG86
     clear gb86 gl86 HG86
     obtain ⟨ce86, hcl86, hM86, hcc86, hfr86⟩ := Kd.R_elem HO_240000.out z71 (t247 : Int) p86 q86
     obtain rfl := k71_openM hM86
     have hx86_0 : wc.cell? ⟨go86, (t247 : Int).toNat * 3, none⟩ = some (.string ((rd_T71 x240000_22 t247).f0)) := hcc86 0 _ rfl
     have hx86_1 : wc.cell? ⟨go86, (t247 : Int).toNat * 3 + 1, none⟩ = some (.string ((rd_T71 x240000_22 t247).f1)) := hcc86 1 _ rfl
     have hx86_2 : wc.cell? ⟨go86, (t247 : Int).toNat * 3 + 2, none⟩ = some (.int .i64 ((rd_T71 x240000_22 t247).f2)) := hcc86 2 _ rfl
     have hf86_0 : wc.frozen? ⟨go86, (t247 : Int).toNat * 3, none⟩ = false := hfr86 0
     have hf86_1 : wc.frozen? ⟨go86, (t247 : Int).toNat * 3 + 1, none⟩ = false := hfr86 1
     have hf86_2 : wc.frozen? ⟨go86, (t247 : Int).toNat * 3 + 2, none⟩ = false := hfr86 2
     clear hcl86 hcc86 hfr86 hM86
     replace p86 := eq_true p86
     replace q86 := eq_true q86
     have hnb138 := NB240_241.out
     have hnc138 := NB241_240.out
     obtain ⟨hcz139_0, hcz139_1, hcz139_2, hcz139_3, hcz139_4, hfz139_0, hfz139_1, hfz139_2, hfz139_3, hfz139_4⟩ := c5_ BK240
     have p268 : 0 ≤ (t247 : Int) := od_
     have q268 : t247 < (x240000_22.length : Int) := od_
     obtain ⟨ad268, e268, hx268_0, hx268_1, hx268_2⟩ := at_T71 (Kd.R_reads' HO_240000.out).2.2 t247 p268 q268
     obtain rfl : (⟨go86, 0, none⟩ : Addr) = ad268 := (by injection e268)
     (first | simp only [add_plain] at hx268_0 | simp only [add_at] at hx268_0 | simp only [Addr.add, Nat.zero_add] at hx268_0 | skip)
     (first | simp only [add_plain] at hx268_1 | simp only [add_at] at hx268_1 | simp only [Addr.add, Nat.zero_add] at hx268_1 | skip)
     (first | simp only [add_plain] at hx268_2 | simp only [add_at] at hx268_2 | simp only [Addr.add, Nat.zero_add] at hx268_2 | skip)
     replace p268 := eq_true p268
     replace q268 := eq_true q268
     go_wp2_with (first | ((with_reducible refine gd_ 11 ?_); refine bx_ 11 #[.string (⟨#[]⟩ : ByteArray), .string (⟨#[]⟩ : ByteArray), .int .i64 0] 71 ?_; intro gb269 hg w140 hbox hb; replace HO_240000 := a_ (Kd.R_below (Kd.R_elderB (by refine rq_ ?_; exact HO_240000.out) gb269 (Nat.le_of_eq hg.symm)) hb); have BK269 := a_ (hbox); have GE269 := a_ (bs_3 hg HB GE239 GE240 GE241); replace HB := hB_ (bl_3 HB GE239 GE240 GE241) hb; have NB239_269 := nB_ hg BK239; have NB269_239 := nC_ hg BK239; replace BK239 := bB_ BK239 hb; have NB240_269 := nB_ hg BK240; have NB269_240 := nC_ hg BK240; replace BK240 := bB_ BK240 hb; have NB241_269 := nB_ hg BK241; have NB269_241 := nC_ hg BK241; replace BK241 := bB_ BK241 hb; clear hb hbox hg; have hnb141 := NB269_239.out; have hnc141 := NB239_269.out; have hnb142 := NB269_240.out; have hnc142 := NB240_269.out; have hnb143 := NB269_241.out; have hnc143 := NB241_269.out; obtain ⟨hcz144_0, hcz144_1, hcz144_2, hfz144_0, hfz144_1, hfz144_2⟩ := c3_ BK269) | ((with_reducible refine gate_store (t := 71) (p := 11) rfl ?_); refine store_event (t := 71) (p := 11) (v := ?vo_w145) (w1 := (((w140.setCell ⟨gb269, 0, none⟩ (.string ((rd_T71 x240000_22 t247).f0))).setCell ⟨gb269, 1, none⟩ (.string ((rd_T71 x240000_22 t247).f1))).setCell ⟨gb269, 2, none⟩ (.int .i64 ((rd_T71 x240000_22 t247).f2)))) ?hg ?ho ?hn ?hr ?_; (case ho => rfl); (case hg => rfl); (case hn => rfl); (case hr => first | (go_simp; done) | (go_simp; rfl)); intro w145 hw; have n0_ : Aside0 (Kd.R k71 71 w145 w.heap.size (fun k_ => k_ ≠ gb269) (.slice (some ⟨go86, 0, none⟩) x240000_22.length co86) x240000_22) := ⟨(by rw [hw]; exact (by refine rq_ ?_; exact Kd.R_mono (Kd.R_far (p := ⟨gb269, 2, none⟩) (Kd.R_far (p := ⟨gb269, 1, none⟩) (Kd.R_far (p := ⟨gb269, 0, none⟩) (Kd.R_mono HO_240000.out (fun k_ hk => (⟨hk, hk.2⟩ : _ ∧ k_ ≠ gb269))) (fun _ hk => hk.2) (.string ((rd_T71 x240000_22 t247).f0))) (fun _ hk => hk.2) (.string ((rd_T71 x240000_22 t247).f1))) (fun _ hk => hk.2) (.int .i64 ((rd_T71 x240000_22 t247).f2))) (fun _ hk => hk.1.2)))⟩; have n1_ : Aside0 (w145.heap[gb239]? = some (.cells #[.slice (some ⟨go86, 0, none⟩) x240000_22.length co86, .bool false, .int .i64 x240002_75] 24 (0, 0))) := ⟨(by rw [hw]; exact (bp_1 BK239 NB239_269))⟩; have n2_ : Aside0 (w145.heap[gb240]? = some (.cells #[.int .u8 a1_0, .string a1_1, .string a1_2, .string a1_3, .int .i64 a1_4] 115 (0, 0))) := ⟨(by rw [hw]; exact (bp_1 BK240 NB240_269))⟩; have n3_ : Aside0 (w145.heap[gb241]? = some (.cells #[.slice none 0 0, .bool false, .int .i64 0] 24 (0, 0))) := ⟨(by rw [hw]; exact (bp_1 BK241 NB241_269))⟩; have n4_ : Aside0 (w145.heap[gb269]? = some (.cells #[.string ((rd_T71 x240000_22 t247).f0), .string ((rd_T71 x240000_22 t247).f1), .int .i64 ((rd_T71 x240000_22 t247).f2)] 71 (0, 0))) := ⟨(by rw [hw]; exact (bp_0 BK269))⟩; have n5_ : Aside0 (Below w.heap.size w w145) := ⟨(by rw [hw]; exact (bl_4 HB GE239 GE240 GE241 GE269))⟩; clear hw; clear HO_240000; clear BK239; clear BK240; clear BK241; clear BK269; clear HB; have HO_240000 := n0_; have BK239 := n1_; have BK240 := n2_; have BK241 := n3_; have BK269 := n4_; have HB := n5_; clear n0_ n1_ n2_ n3_ n4_ n5_; obtain ⟨hcz146_0, hcz146_1, hcz146_2, hcz146_3, hcz146_4, hfz146_0, hfz146_1, hfz146_2, hfz146_3, hfz146_4⟩ := c5_ BK240; obtain ⟨hcz147_0, hcz147_1, hcz147_2, hfz147_0, hfz147_1, hfz147_2⟩ := c3_ BK269) | ((with_reducible refine gate_store (t := 9) (p := 132) rfl ?_); refine store_event (t := 9) (p := 132) (v := ?vo_w148) (w1 := (w145.setCell ⟨gb269, 0, none⟩ (.string a1_2))) ?hg ?ho ?hn ?hr ?_; (case ho => rfl); (case hg => rfl); (case hn => rfl); (case hr => first | (go_simp; done) | (go_simp; rfl)); intro w148 hw; have n0_ : Aside0 (Kd.R k71 71 w148 w.heap.size (fun k_ => k_ ≠ gb269) (.slice (some ⟨go86, 0, none⟩) x240000_22.length co86) x240000_22) := ⟨(by rw [hw]; exact (by refine rq_ ?_; exact Kd.R_mono (Kd.R_far (p := ⟨gb269, 0, none⟩) (Kd.R_mono HO_240000.out (fun k_ hk => (⟨hk, hk⟩ : _ ∧ k_ ≠ gb269))) (fun _ hk => hk.2) (.string a1_2)) (fun _ hk => hk.1)))⟩; have n1_ : Aside0 (w148.heap[gb239]? = some (.cells #[.slice (some ⟨go86, 0, none⟩) x240000_22.length co86, .bool false, .int .i64 x240002_75] 24 (0, 0))) := ⟨(by rw [hw]; exact (bp_1 BK239 NB239_269))⟩; have n2_ : Aside0 (w148.heap[gb240]? = some (.cells #[.int .u8 a1_0, .string a1_1, .string a1_2, .string a1_3, .int .i64 a1_4] 115 (0, 0))) := ⟨(by rw [hw]; exact (bp_1 BK240 NB240_269))⟩; have n3_ : Aside0 (w148.heap[gb241]? = some (.cells #[.slice none 0 0, .bool false, .int .i64 0] 24 (0, 0))) := ⟨(by rw [hw]; exact (bp_1 BK241 NB241_269))⟩; have n4_ : Aside0 (w148.heap[gb269]? = some (.cells #[.string a1_2, .string ((rd_T71 x240000_22 t247).f1), .int .i64 ((rd_T71 x240000_22 t247).f2)] 71 (0, 0))) := ⟨(by rw [hw]; exact (bp_0 BK269))⟩; have n5_ : Aside0 (Below w.heap.size w w148) := ⟨(by rw [hw]; exact (bl_4 HB GE239 GE240 GE241 GE269))⟩; clear hw; clear HO_240000; clear BK239; clear BK240; clear BK241; clear BK269; clear HB; have HO_240000 := n0_; have BK239 := n1_; have BK240 := n2_; have BK241 := n3_; have BK269 := n4_; have HB := n5_; clear n0_ n1_ n2_ n3_ n4_ n5_; obtain ⟨hcz149_0, hcz149_1, hcz149_2, hfz149_0, hfz149_1, hfz149_2⟩ := c3_ BK239) | ((with_reducible refine gk_ 109 ?_); refine gl_ (some 138) Try.func109 #[.slice (some ⟨go86, 0, none⟩) x240000_22.length co86, .int .i64 t247, .int .i64 (wrap64 (t247 + 1))] ?_; (with_reducible refine (api_File_109.calls (fun k_ => some k_ = (.slice (some ⟨go86, 0, none⟩) x240000_22.length co86 : Value).ownBlock) (.slice (some ⟨go86, 0, none⟩) x240000_22.length co86) x240000_22 t247 (wrap64 (t247 + 1)) t270 w _ ?side1 ?side2 A129.out).mono ?_); (case side1 => repeat (first | (with_reducible first | exact HB.out | apply below_alloc | apply pw_below_drewN | apply below_drew1 | refine below_set ?_ GE239.out | refine below_set ?_ GE240.out | refine below_set ?_ GE241.out | refine below_set ?_ GE269.out) | exact HB.out)); (case side2 => exact Kd.R_tight rfl HO_240000.out); rintro e w150 ⟨v271, rfl, ho0, hb, hkp⟩; refine ⟨_, rfl, ?_⟩; replace BK239 := a_ (blk_kept (bk_ BK239) hkp (fun hs_ => (fun e_ => (Kd.R_ne HO_240000.out BK239.out (by decide)) e_) hs_)); replace BK240 := a_ (blk_kept (bk_ BK240) hkp (fun hs_ => (fun e_ => (Kd.R_ne HO_240000.out BK240.out (by decide)) e_) hs_)); replace BK241 := a_ (blk_kept (bk_ BK241) hkp (fun hs_ => (fun e_ => (Kd.R_ne HO_240000.out BK241.out (by decide)) e_) hs_)); have HO272 := a_ (Kd.R_mono (ok' := fun k_ => k_ ≠ gb269) ho0 (fun k_ hk_ => Or.elim hk_ (fun hs_ => fun e_ => (Kd.R_away HO_240000.out (fun _ hk => hk)) (by rw [← e_]; exact hs_)) (fun hn_ => (Kd.freshB (g := gb269) (o := .cells #[.string a1_2, .string ((rd_T71 x240000_22 t247).f1), .int .i64 ((rd_T71 x240000_22 t247).f2)] 71 (0, 0)) (bk_ BK269) k_ hn_)))); replace BK269 := a_ (blk_kept (bk_ BK269) hkp (fun hs_ => (fun e_ => (Kd.R_away HO_240000.out (fun _ hk => hk)) e_) hs_)); replace HB := a_ (hb); clear HO_240000; (try clear hb); (try clear hkp); (try clear ho0); obtain ⟨Ao151, co151, eo151⟩ := Kd.R_slice HO272.out; subst eo151; obtain ⟨hcz152_0, hcz152_1, hcz152_2, hfz152_0, hfz152_1, hfz152_2⟩ := c3_ BK239; obtain ⟨hcz153_0, hcz153_1, hcz153_2, hcz153_3, hcz153_4, hfz153_0, hfz153_1, hfz153_2, hfz153_3, hfz153_4⟩ := c5_ BK240) | ((with_reducible refine gk_ 50 ?_); refine gl_ (some 144) Try.func50 #[.agg #[.slice Ao151 t270.length co151, .bool false, .int .i64 x240002_75], .string a1_2] ?_; (with_reducible refine (disk_place.calls kj75 _ _ t270 false x240002_75 a1_2 t273 true _ ?side1 ?side2 A130.out).mono ?_); (case side1 => refine (Kd.R_reads' (e := 71) (base := w.heap.size) (ok := fun k_ => k_ ≠ gb269) (n := t270.length) (c := co151) ?_).2.2; exact (by refine rq_ ?_; exact (Kd.R_mono (Kd.R_far (p := ⟨gb239, 0, none⟩) (Kd.R_types HO272.out BK239.out (by decide)) (fun _ hk => hk.2) (.slice Ao151 t270.length co151)) (fun _ h_ => h_.1)))); (case side2 => exact (Kd.R_reads' HO272.out).2.1); rintro e w154 ⟨rfl, hb⟩; refine ⟨_, rfl, ?_⟩; replace HO272 := a_ (Kd.R_below (by refine rq_ ?_; exact (Kd.R_mono (Kd.R_far (p := ⟨gb239, 0, none⟩) (Kd.R_types HO272.out BK239.out (by decide)) (fun _ hk => hk.2) (.slice Ao151 t270.length co151)) (fun _ h_ => h_.1))) hb); replace BK239 := a_ (blk_below (g := gb239) (o := .cells #[.slice Ao151 t270.length co151, .bool false, .int .i64 x240002_75] 24 (0, 0)) (bp_0 BK239) hb); replace BK240 := a_ (blk_below (g := gb240) (o := .cells #[.int .u8 a1_0, .string a1_1, .string a1_2, .string a1_3, .int .i64 a1_4] 115 (0, 0)) (bp_1 BK240 NB240_239) hb); replace BK241 := a_ (blk_below (g := gb241) (o := .cells #[.slice none 0 0, .bool false, .int .i64 0] 24 (0, 0)) (bp_1 BK241 NB241_239) hb); replace BK269 := a_ (blk_below (g := gb269) (o := .cells #[.string a1_2, .string ((rd_T71 x240000_22 t247).f1), .int .i64 ((rd_T71 x240000_22 t247).f2)] 71 (0, 0)) (bp_1 BK269 NB269_239) hb); replace HB := hB_ (bl_4 HB GE239 GE240 GE241 GE269) hb; (try clear hb); obtain ⟨hcz155_0, hcz155_1, hcz155_2, hfz155_0, hfz155_1, hfz155_2⟩ := c3_ BK239; obtain ⟨hcz156_0, hcz156_1, hcz156_2, hfz156_0, hfz156_1, hfz156_2⟩ := c3_ BK269; have p134 : 0 ≤ (t273 : Int) := od_; have q134 : (t273 : Int) < ((t270.length : Int) : Int) := od_; obtain ⟨go134, co134, eo134, gb134, gl134, cl134, HG134⟩ := Kd.R_form HO272.out (by omega); (first | cases eo134 | (injection eo134 with ea_ en_ ec_; (first | subst ea_ | (injection ea_ with ea_; subst ea_)); subst ec_; clear en_)); have GB134 := a_ gb134; have GG134 := a_ HG134; clear gb134 gl134 HG134; obtain ⟨ce134, hcl134, hM134, hcc134, hfr134⟩ := Kd.R_elem HO272.out z71 (t273 : Int) p134 q134; obtain rfl := k71_openM hM134; have hx134_0 : w154.cell? ⟨go134, (t273 : Int).toNat * 3, none⟩ = some (.string ((rd_T71 t270 t273).f0)) := hcc134 0 _ rfl; have hx134_1 : w154.cell? ⟨go134, (t273 : Int).toNat * 3 + 1, none⟩ = some (.string ((rd_T71 t270 t273).f1)) := hcc134 1 _ rfl; have hx134_2 : w154.cell? ⟨go134, (t273 : Int).toNat * 3 + 2, none⟩ = some (.int .i64 ((rd_T71 t270 t273).f2)) := hcc134 2 _ rfl; have hf134_0 : w154.frozen? ⟨go134, (t273 : Int).toNat * 3, none⟩ = false := hfr134 0; have hf134_1 : w154.frozen? ⟨go134, (t273 : Int).toNat * 3 + 1, none⟩ = false := hfr134 1; have hf134_2 : w154.frozen? ⟨go134, (t273 : Int).toNat * 3 + 2, none⟩ = false := hfr134 2; clear hcl134 hcc134 hfr134 hM134; replace p134 := eq_true p134; replace q134 := eq_true q134; have HX157 := a_ (show Kd.R k71 71 w154 w.heap.size (fun k_ => k_ ≠ gb269) (.slice (some ⟨go134, 0, none⟩) t270.length co151) t270 from (by refine rq_ ?_; exact HO272.out)); obtain ⟨ce157, hcl157, hM157, hcc157, hfr157⟩ := Kd.R_elem HX157.out z71 (t273 : Int) od_ (by have h_ : (t273 : Int) < ((t270.length : Int) : Int) := od_; first | exact h_ | (have e_ := (Kd.R_reads' HO272.out).1; omega) | simpa using h_); obtain rfl := k71_openM hM157; have HP157 := Kd.R_seg HX157.out (t273 : Int) od_ (by have h_ : (t273 : Int) < ((t270.length : Int) : Int) := od_; first | exact h_ | (have e_ := (Kd.R_reads' HO272.out).1; omega) | simpa using h_) (seg := [.string a1_2, .string ((rd_T71 x240000_22 t247).f1), .int .i64 ((rd_T71 x240000_22 t247).f2)]) (j := 0) hcl157 hcc157 (show 3 ≤ 3 from by decide) (x' := (⟨a1_2, (rd_T71 x240000_22 t247).f1, (rd_T71 x240000_22 t247).f2⟩ : S71)) (k71_mkM _ _ _ (⟨a1_2, (rd_T71 x240000_22 t247).f1, (rd_T71 x240000_22 t247).f2⟩ : S71) ) (fun _ hk => hk); have hx157_0 := hcc157 0 _ rfl; (try simp only [show (k71).sz = 3 from rfl, Nat.mul_one, Nat.add_zero] at hx157_0); have hf157_0 := hfr157 0; (try simp only [show (k71).sz = 3 from rfl, Nat.mul_one, Nat.add_zero] at hf157_0); have hx157_1 := hcc157 1 _ rfl; (try simp only [show (k71).sz = 3 from rfl, Nat.mul_one, Nat.add_zero] at hx157_1); have hf157_1 := hfr157 1; (try simp only [show (k71).sz = 3 from rfl, Nat.mul_one, Nat.add_zero] at hf157_1); have hx157_2 := hcc157 2 _ rfl; (try simp only [show (k71).sz = 3 from rfl, Nat.mul_one, Nat.add_zero] at hx157_2); have hf157_2 := hfr157 2; (try simp only [show (k71).sz = 3 from rfl, Nat.mul_one, Nat.add_zero] at hf157_2); clear hcl157 hcc157 hfr157 hM157) | ((with_reducible refine gate_store (t := 71) (p := 152) rfl ?_); refine store_event (t := 71) (p := 152) (v := ?vo_w158) (w1 := (((w154.setCell ⟨go134, (t273 : Int).toNat * 3, none⟩ (.string a1_2)).setCell ⟨go134, (t273 : Int).toNat * 3 + 1, none⟩ (.string ((rd_T71 x240000_22 t247).f1))).setCell ⟨go134, (t273 : Int).toNat * 3 + 2, none⟩ (.int .i64 ((rd_T71 x240000_22 t247).f2)))) ?hg ?ho ?hn ?hr ?_; (case ho => rfl); (case hg => rfl); (case hn => rfl); (case hr => first | (go_simp; done) | (go_simp; rfl)); intro w158 hw; have hg : w154.grownBy w158 (some go134) := (by rw [hw]; exact HP157.2); have hp_ : Kd.R k71 71 w158 w.heap.size (fun k_ => k_ ≠ gb269) (.slice (some ⟨go134, 0, none⟩) t270.length co151) y275 := (by rw [hw, Ny275.out]; exact HP157.1); clear HP157; replace BK239 := a_ (blk_grown (g := gb239) (o := .cells #[.slice (some ⟨go134, 0, none⟩) t270.length co151, .bool false, .int .i64 x240002_75] 24 (0, 0)) (bk_ BK239) hg (Kd.R_ne HO272.out BK239.out (by decide))); replace BK240 := a_ (blk_grown (g := gb240) (o := .cells #[.int .u8 a1_0, .string a1_1, .string a1_2, .string a1_3, .int .i64 a1_4] 115 (0, 0)) (bk_ BK240) hg (Kd.R_ne HO272.out BK240.out (by decide))); replace BK241 := a_ (blk_grown (g := gb241) (o := .cells #[.slice none 0 0, .bool false, .int .i64 0] 24 (0, 0)) (bk_ BK241) hg (Kd.R_ne HO272.out BK241.out (by decide))); replace BK269 := a_ (blk_grown (g := gb269) (o := .cells #[.string a1_2, .string ((rd_T71 x240000_22 t247).f1), .int .i64 ((rd_T71 x240000_22 t247).f2)] 71 (0, 0)) (bk_ BK269) hg (Kd.R_away HO272.out (fun _ hk => hk))); replace HO272 := a_ (hp_); replace HB := a_ ((by rw [hw]; exact below_set (below_set (below_set (HB.out) GB134.out) GB134.out) GB134.out : Below w.heap.size w w158)); clear hg hw hp_; obtain ⟨hcz159_0, hcz159_1, hcz159_2, hfz159_0, hfz159_1, hfz159_2⟩ := c3_ BK239; obtain ⟨hcz160_0, hcz160_1, hcz160_2, hfz160_0, hfz160_1, hfz160_2⟩ := c3_ BK241))
     refine bodyPost_ret (results_ct rfl _ _ gb241 24 #[.slice (some ⟨go134, 0, none⟩) t270.length co151, .bool false, .int .i64 x240002_75] (0, 0) _ rfl (bp_0 BK241) Try.underlying24 rfl (by kernel_rfl)) rfl ?_
     exact ⟨_, fz_, by refine rq_ ?_; exact Kd.R_mono (Kd.R_far (p := ⟨gb241, 2, none⟩) (Kd.R_far (p := ⟨gb241, 1, none⟩) (Kd.R_far (p := ⟨gb241, 0, none⟩) (Kd.R_types HO272.out BK241.out (by decide)) (fun _ hk => hk.2) (.slice (some ⟨go134, 0, none⟩) t270.length co151)) (fun _ hk => hk.2) (.bool false)) (fun _ hk => hk.2) (.int .i64 x240002_75)) (fun _ hk => trivial), bl_4 HB GE239 GE240 GE241 GE269⟩end Go.Proofs.Ytpigjmjbfpipnaa.PE
