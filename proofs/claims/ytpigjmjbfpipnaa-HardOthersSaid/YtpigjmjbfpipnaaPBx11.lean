-- Written for this claim by a program of this session. Lean checks it.
import Derived.Test.YtpigjmjbfpipnaaPBx0
import Derived.Test.YtpigjmjbfpipnaaPBx3
import Derived.Test.YtpigjmjbfpipnaaPBx6
namespace Go.Proofs.Ytpigjmjbfpipnaa.PB
open Go.RowKit Go.Proofs.YtpigjmjbfpipnaaW.PrintWords Go.Proofs.YtpigjmjbfpipnaaW.PrintLast Go.Proofs.YtpigjmjbfpipnaaW.PrintMore Go.Proofs.Ytpigjmjbfpipnaa.Sh Go.Proofs.Ytpigjmjbfpipnaa.Op
attribute [local go_sem] max2_int min2_int max_two min_two max_three min_three max_four min_four   -- for this text's walks alone
set_option linter.unusedVariables false
set_option linter.unusedSimpArgs false

/-! ### disk_Crash: function 23 -/
def disk_Crash.l0 : Nat → List Int → Int → Int → List (S71) → Bool → Int → List (S71) → Bool → Int → Option ((List (S71)) × Bool × Int × Int)
 | 0, _, _, _, _, _, _, _, _, _ => none
 | k + 1, x1, x23, x24, x279000, x279001, x279002, x285000, x285001, x285002 => if x24 < x23 then (if 0 ≤ x24 then (if x24 < (x285000.length : Int) then (if 0 ≤ ((rd_T71 x285000 x24).f2) then (if ((rd_T71 x285000 x24).f2) ≤ (((rd_T71 x285000 x24).f1).size : Int) then ((some (x285000.set (x24 : Int).toNat (⟨(rd_T71 x285000 x24).f0, ((rd_T71 x285000 x24).f1).extract 0 (((rd_T71 x285000 x24).f2) : Int).toNat, (rd_T71 x285000 x24).f2⟩ : S71) : List (S71))).bind fun y289 => (if x24 ≥ (x1.length : Int) then (disk_Crash.l0 k x1 x23 (wrap64 (x24 + 1)) x279000 x279001 x279002 y289 x285001 x285002) else (if x24 < (x1.length : Int) then (if (rd x1 x24) ≤ 0 then (disk_Crash.l0 k x1 x23 (wrap64 (x24 + 1)) x279000 x279001 x279002 y289 x285001 x285002) else ((some (y289.set (x24 : Int).toNat (⟨(rd_T71 y289 x24).f0, (rd_T71 y289 x24).f1, wrap64 (((rd_T71 y289 x24).f2) + (mn (rd x1 x24) (wrap64 ((((rd_T71 x285000 x24).f1).size : Int) - ((rd_T71 x285000 x24).f2)))))⟩ : S71) : List (S71))).bind fun y293 => (if x24 < (x279000.length : Int) then (if 0 ≤ ((rd_T71 y293 x24).f2) then (if ((rd_T71 y293 x24).f2) ≤ (((rd_T71 x279000 x24).f1).size : Int) then (disk_Crash.l0 k x1 x23 (wrap64 (x24 + 1)) x279000 x279001 x279002 (y293.set (x24 : Int).toNat (⟨(rd_T71 y293 x24).f0, ((rd_T71 x279000 x24).f1).extract 0 (((rd_T71 y293 x24).f2) : Int).toNat, (rd_T71 y293 x24).f2⟩ : S71)) x285001 x285002) else (none)) else (none)) else (none)))) else (none)))) else (none)) else (none)) else (none)) else (none)) else (some (x285000, x285001, x285002, 0))
def disk_Crash.f (k : Nat) (l0_0 : List (S71)) (a0_1 : Bool) (a0_2 : Int) (l1 : List Int) : Option ((List (S71)) × Bool × Int × Int) := (disk_Check.f k l0_0 a0_1 a0_2).bind fun t280 => (if t280 = 0 then ((api_File_48.f l0_0).bind fun t281 => (disk_Crash.l0 k l1 (t281.length : Int) 0 l0_0 a0_1 a0_2 t281 false (-1))) else (some (([] : List (S71)), false, 0, t280)))
theorem disk_Crash.mono_l : ∀ k, (∀ y0 y1 y2 y3 y4 y5 y6 y7 y8, LeO (disk_Crash.l0 k y0 y1 y2 y3 y4 y5 y6 y7 y8) (disk_Crash.l0 (k + 1) y0 y1 y2 y3 y4 y5 y6 y7 y8))
 | 0 => fun _ _ _ _ _ _ _ _ _ r h => by simp [disk_Crash.l0] at h
 | k + 1 => by
  have ih0 := disk_Crash.mono_l k
  ·intro y0 y1 y2 y3 y4 y5 y6 y7 y8
   unfold disk_Crash.l0
   repeat' first | (with_reducible first | exact ih0 _ _ _ _ _ _ _ _ _ | exact disk_Check.mono _ _ _ _ | exact LeO.refl _ | exact LeO.none _ | refine LeO.ite ?_ ?_ | refine LeO.bind ?_ (fun _ => ?_)) | exact ih0 _ _ _ _ _ _ _ _ _ | exact disk_Check.mono _ _ _ _ | exact LeO.none _ | refine LeO.ite ?_ ?_ | refine LeO.bind ?_ (fun _ => ?_)
theorem disk_Crash.mono : ∀ a0 a1 a2 a3 k, LeO (disk_Crash.f k a0 a1 a2 a3) (disk_Crash.f (k + 1) a0 a1 a2 a3) := by
 intro a0 a1 a2 a3 k
 have ih0 := disk_Crash.mono_l k
 unfold disk_Crash.f
 repeat' first | (with_reducible first | exact ih0 _ _ _ _ _ _ _ _ _ | exact disk_Check.mono _ _ _ _ | exact LeO.refl _ | exact LeO.none _ | refine LeO.ite ?_ ?_ | refine LeO.bind ?_ (fun _ => ?_)) | exact ih0 _ _ _ _ _ _ _ _ _ | exact disk_Check.mono _ _ _ _ | exact LeO.none _ | refine LeO.ite ?_ ?_ | refine LeO.bind ?_ (fun _ => ?_)
def disk_Crash.T9 : Bool × List (List Nat × List Nat) := (true, [([], []), ([0], [0]), ([1], [1]), ([2], [2]), ([3], [3]), ([], []), ([5], [5]), ([6], [6]), ([7], [7]), ([4, 8], [4, 8]), ([9, 0, 1, 2, 3, 4, 5, 6, 7, 8, 9], [9])])
def disk_Crash.B9 : List Nat := [0, 1, 3, 7, 15, 0, 32, 96, 224, 511, 1023]
theorem disk_Crash.tab9 : rtab .any (opsOf Try.f23 9) = disk_Crash.T9 := by kernel_rfl
theorem disk_Crash.bits9 : waitsOk disk_Crash.T9.2 disk_Crash.B9 = true := by kernel_rfl
def disk_Crash.T10 : Bool × List (List Nat × List Nat) := (true, [([], []), ([], []), ([1], [1]), ([2], [2]), ([3], [3]), ([], []), ([5], [5]), ([6], [6]), ([7], [7]), ([4, 8], [4, 8]), ([0, 0, 1, 2, 3, 4, 5, 6, 7, 8, 9], [0]), ([10, 0, 1, 2, 3, 4, 5, 6, 7, 8, 9], [10]), ([11, 9, 0, 1, 2, 3, 4, 5, 6, 7, 8, 9], [9, 11])])
def disk_Crash.B10 : List Nat := [0, 0, 2, 6, 14, 0, 32, 96, 224, 510, 1023, 2047, 4095]
theorem disk_Crash.tab10 : rtab .any (opsOf Try.f23 10) = disk_Crash.T10 := by kernel_rfl
theorem disk_Crash.bits10 : waitsOk disk_Crash.T10.2 disk_Crash.B10 = true := by kernel_rfl
def disk_Crash.T12 : Bool × List (List Nat × List Nat) := (true, [([], []), ([0], [0]), ([1], [1]), ([2], [2]), ([], []), ([], []), ([4, 5], [4, 5]), ([6], [6]), ([], []), ([7, 8], [7, 8]), ([3, 9], [3, 9]), ([0, 0, 1, 2, 3, 4, 5, 6, 7, 8, 9, 10], [0]), ([11, 0, 1, 2, 3, 4, 5, 6, 7, 8, 9, 10], [11]), ([12, 10, 0, 1, 2, 3, 4, 5, 6, 7, 8, 9, 10], [10, 12])])
def disk_Crash.B12 : List Nat := [0, 1, 3, 7, 0, 0, 48, 112, 0, 496, 1023, 2047, 4095, 8191]
theorem disk_Crash.tab12 : rtab .any (opsOf Try.f23 12) = disk_Crash.T12 := by kernel_rfl
theorem disk_Crash.bits12 : waitsOk disk_Crash.T12.2 disk_Crash.B12 = true := by kernel_rfl
def disk_Crash.T13 : Bool × List (List Nat × List Nat) := (true, [([], []), ([], []), ([1], [1]), ([], []), ([2, 3], [2, 3]), ([4], [4]), ([5], [5]), ([], []), ([7], [7]), ([8], [8]), ([9], [9]), ([6, 10], [6, 10]), ([0, 0, 1, 2, 3, 4, 5, 6, 7, 8, 9, 10, 11], [0]), ([12, 0, 1, 2, 3, 4, 5, 6, 7, 8, 9, 10, 11], [12]), ([13, 11, 0, 1, 2, 3, 4, 5, 6, 7, 8, 9, 10, 11], [11, 13])])
def disk_Crash.B13 : List Nat := [0, 0, 2, 0, 14, 30, 62, 0, 128, 384, 896, 2046, 4095, 8191, 16383]
theorem disk_Crash.tab13 : rtab .any (opsOf Try.f23 13) = disk_Crash.T13 := by kernel_rfl
theorem disk_Crash.bits13 : waitsOk disk_Crash.T13.2 disk_Crash.B13 = true := by kernel_rfl
set_option maxHeartbeats 80000000 in
set_option maxRecDepth 100000 in
theorem disk_Crash.calls (k : Nat) (A0_0 : Option Addr) (c0_0 : Nat) (l0_0 : List (S71)) (a0_1 : Bool) (a0_2 : Int) (A1 : Option Addr) (c1 : Nat) (l1 : List Int) (r1 : List (S71)) (r2 : Bool) (r3 : Int) (r4 : Int) (w : World) (hr0_0 : Kd.C k71 w A0_0 l0_0.length l0_0) (hc0_0 : l0_0.length ≤ c0_0) (hr1 : Kd.C (Kd.int .i64) w A1 l1.length l1) (hc1 : l1.length ≤ c1) (h : disk_Crash.f k l0_0 a0_1 a0_2 l1 = some (r1, r2, r3, r4)) :
  Calls Try.prog 23 #[.agg #[.slice A0_0 l0_0.length c0_0, .bool a0_1, .int .i64 a0_2], .slice A1 l1.length c1] w fun e w' => ∃ v0_ : Value, e = .returned (.tuple #[.agg #[v0_, .bool r2, .int .i64 r3], .int .i64 r4]) ∧ Kd.R k71 71 w' w.heap.size (fun _ => True) v0_ r1 ∧ Below w.heap.size w w' := by
 have hu24 := Try.underlying24
 have HR0_0 := Aside0.mk hr0_0
 have HC0_0 := Aside0.mk hc0_0
 clear hr0_0 hc0_0
 have HR1 := Aside0.mk hr1
 have HC1 := Aside0.mk hc1
 clear hr1 hc1
 have HB := Aside0.mk (Below.refl w.heap.size w)
 have H : ((disk_Check.f k l0_0 a0_1 a0_2).bind fun t280 => (if t280 = 0 then ((api_File_48.f l0_0).bind fun t281 => (disk_Crash.l0 k l1 (t281.length : Int) 0 l0_0 a0_1 a0_2 t281 false (-1))) else (some (([] : List (S71)), false, 0, t280)))) = some (r1, r2, r3, r4) := h
 clear h
 obtain ⟨t280, A30, H⟩ := Option.bind_eq_some_iff.mp H
 try dsimp only at H
 have A3 := Aside0.mk A30
 clear A30
 by_cases c4 : t280 = 0
 rotate_left
 ·rw [if_neg c4] at H
  have c4b0 : (t280 == 0) = false := beq_eq_false_iff_ne.mpr c4
  have c4b1 : (t280 != 0) = true := bne_iff_ne.mpr c4
  simp only [Option.some.injEq, Prod.mk.injEq] at H
  obtain ⟨rfl, rfl, rfl, rfl⟩ := H
  go_enter Try.func23, Try.ntmps23
  go_wp2_with (first | ((with_reducible refine gate_dst (N := 2) rfl ?_); refine bx_ 2 #[.slice A0_0 l0_0.length c0_0, .bool a0_1, .int .i64 a0_2] 24 ?_; intro gb278 hg w64 hbox hb; have BK278 := Aside0.mk (hbox); have GE278 := Aside0.mk (bs_0 hg HB); replace HB := Aside0.mk (below_step (bl_ HB) hb); clear hb hbox hg) | ((with_reducible refine gate_dst (N := 4) rfl ?_); refine bx_ 4 #[.slice none 0 0, .bool false, .int .i64 0] 24 ?_; intro gb279 hg w65 hbox hb; have BK279 := Aside0.mk (hbox); have GE279 := Aside0.mk (bs_1 hg HB GE278); replace HB := Aside0.mk (below_step (bl_1 HB GE278) hb); have NB278_279 := Aside0.mk (nb_ hg BK278); have NB279_278 := Aside0.mk (nc_ hg BK278); replace BK278 := Aside0.mk (bb_ BK278 hb); clear hb hbox hg; have hnb66 := NB278_279.out; have hnc66 := NB279_278.out; obtain ⟨hcz67_0, hcz67_1, hcz67_2, hfz67_0, hfz67_1, hfz67_2⟩ := c3_ BK278) | ((with_reducible refine gate_callee (f := 37) rfl ?_); refine goesL_ (some 12) rfl rfl Try.func37 (by kernel_rfl) rfl #[.agg #[.slice A0_0 l0_0.length c0_0, .bool a0_1, .int .i64 a0_2]] rfl (ar_) ?_; (with_reducible refine (disk_Check.calls k _ _ l0_0 a0_1 a0_2 t280 _ ?side1 ?side2 A3.out).mono ?_); (case side1 => exact cl_ (Kd.C_below HR0_0.out HB.out)); (case side2 => exact HC0_0.out); rintro e w68 ⟨rfl, hb⟩; refine ⟨_, rfl, ?_⟩; replace BK278 := Aside0.mk (bb_ BK278 hb); replace BK279 := Aside0.mk (bb_ BK279 hb); replace HB := Aside0.mk (below_step (bl_2 HB GE278 GE279) hb); (try clear hb); obtain ⟨hcz69_0, hcz69_1, hcz69_2, hfz69_0, hfz69_1, hfz69_2⟩ := c3_ BK279))
  repeat (go_step3; try (go_wp2_with (first | ((with_reducible refine gate_dst (N := 2) rfl ?_); refine bx_ 2 #[.slice A0_0 l0_0.length c0_0, .bool a0_1, .int .i64 a0_2] 24 ?_; intro gb278 hg w64 hbox hb; have BK278 := Aside0.mk (hbox); have GE278 := Aside0.mk (bs_0 hg HB); replace HB := Aside0.mk (below_step (bl_ HB) hb); clear hb hbox hg) | ((with_reducible refine gate_dst (N := 4) rfl ?_); refine bx_ 4 #[.slice none 0 0, .bool false, .int .i64 0] 24 ?_; intro gb279 hg w65 hbox hb; have BK279 := Aside0.mk (hbox); have GE279 := Aside0.mk (bs_1 hg HB GE278); replace HB := Aside0.mk (below_step (bl_1 HB GE278) hb); have NB278_279 := Aside0.mk (nb_ hg BK278); have NB279_278 := Aside0.mk (nc_ hg BK278); replace BK278 := Aside0.mk (bb_ BK278 hb); clear hb hbox hg; have hnb66 := NB278_279.out; have hnc66 := NB279_278.out; obtain ⟨hcz67_0, hcz67_1, hcz67_2, hfz67_0, hfz67_1, hfz67_2⟩ := c3_ BK278) | ((with_reducible refine gate_callee (f := 37) rfl ?_); refine goesL_ (some 12) rfl rfl Try.func37 (by kernel_rfl) rfl #[.agg #[.slice A0_0 l0_0.length c0_0, .bool a0_1, .int .i64 a0_2]] rfl (ar_) ?_; (with_reducible refine (disk_Check.calls k _ _ l0_0 a0_1 a0_2 t280 _ ?side1 ?side2 A3.out).mono ?_); (case side1 => exact cl_ (Kd.C_below HR0_0.out HB.out)); (case side2 => exact HC0_0.out); rintro e w68 ⟨rfl, hb⟩; refine ⟨_, rfl, ?_⟩; replace BK278 := Aside0.mk (bb_ BK278 hb); replace BK279 := Aside0.mk (bb_ BK279 hb); replace HB := Aside0.mk (below_step (bl_2 HB GE278 GE279) hb); (try clear hb); obtain ⟨hcz69_0, hcz69_1, hcz69_2, hfz69_0, hfz69_1, hfz69_2⟩ := c3_ BK279))))
  try dsimp only [Exit.noGoto]
  refine bodyPost_ret (results_ct rfl _ _ gb279 24 #[.slice none 0 0, .bool false, .int .i64 0] (0, 0) _ rfl (bp_0 BK279) Try.underlying24 rfl (by kernel_rfl)) rfl ?_
  exact ⟨_, by first | rfl | (simp; done) | (simp [*]; done), by first | exact Kd.R_nil _ _ _ _ _ | exact Kd.N_nil _ _ _ _ _ | exact Kd.V_nil _ _ _ _ _ | exact Kd.Q_nil _ _ _ _ _ | exact Kd.S_nil _ _ _ _ _, bl_2 HB GE278 GE279⟩


 rw [if_pos c4] at H
 have c4b0 : (t280 == 0) = true := beq_iff_eq.mpr c4
 have c4b1 : (t280 != 0) = false := bne_eq_false_iff_eq.mpr c4
 clear c4
 obtain ⟨t281, A50, H⟩ := Option.bind_eq_some_iff.mp H
 try dsimp only at H
 have A5 := Aside0.mk A50
 clear A50
 have H' := Aside0.mk H
 clear H
 go_enter Try.func23, Try.ntmps23
 go_wp2_with (first | ((with_reducible refine gate_dst (N := 2) rfl ?_); refine bx_ 2 #[.slice A0_0 l0_0.length c0_0, .bool a0_1, .int .i64 a0_2] 24 ?_; intro gb278 hg w6 hbox hb; have BK278 := Aside0.mk (hbox); have GE278 := Aside0.mk (bs_0 hg HB); replace HB := Aside0.mk (below_step (bl_ HB) hb); clear hb hbox hg) | ((with_reducible refine gate_dst (N := 4) rfl ?_); refine bx_ 4 #[.slice none 0 0, .bool false, .int .i64 0] 24 ?_; intro gb279 hg w7 hbox hb; have BK279 := Aside0.mk (hbox); have GE279 := Aside0.mk (bs_1 hg HB GE278); replace HB := Aside0.mk (below_step (bl_1 HB GE278) hb); have NB278_279 := Aside0.mk (nb_ hg BK278); have NB279_278 := Aside0.mk (nc_ hg BK278); replace BK278 := Aside0.mk (bb_ BK278 hb); clear hb hbox hg; have hnb8 := NB278_279.out; have hnc8 := NB279_278.out; obtain ⟨hcz9_0, hcz9_1, hcz9_2, hfz9_0, hfz9_1, hfz9_2⟩ := c3_ BK278) | ((with_reducible refine gate_callee (f := 37) rfl ?_); refine goesL_ (some 12) rfl rfl Try.func37 (by kernel_rfl) rfl #[.agg #[.slice A0_0 l0_0.length c0_0, .bool a0_1, .int .i64 a0_2]] rfl (ar_) ?_; (with_reducible refine (disk_Check.calls k _ _ l0_0 a0_1 a0_2 t280 _ ?side1 ?side2 A3.out).mono ?_); (case side1 => exact cl_ (Kd.C_below HR0_0.out HB.out)); (case side2 => exact HC0_0.out); rintro e w10 ⟨rfl, hb⟩; refine ⟨_, rfl, ?_⟩; replace BK278 := Aside0.mk (bb_ BK278 hb); replace BK279 := Aside0.mk (bb_ BK279 hb); replace HB := Aside0.mk (below_step (bl_2 HB GE278 GE279) hb); (try clear hb); obtain ⟨hcz11_0, hcz11_1, hcz11_2, hfz11_0, hfz11_1, hfz11_2⟩ := c3_ BK278) | ((with_reducible refine gate_callee (f := 48) rfl ?_); refine goesL_ (some 19) rfl rfl Try.func48 (by kernel_rfl) rfl #[.slice A0_0 l0_0.length c0_0] rfl (ar_) ?_; (with_reducible refine (api_File_48.calls _ _ l0_0 t281 _ ?side1 ?side2 A5.out).mono ?_); (case side1 => exact cl_ (Kd.C_below HR0_0.out HB.out)); (case side2 => exact HC0_0.out); rintro e w12 ⟨v282, rfl, ho0, hb⟩; refine ⟨_, rfl, ?_⟩; have HO283 := Aside0.mk (Kd.R_lower ho0 (below_size (bl_2 HB GE278 GE279))); replace BK278 := Aside0.mk (bb_ BK278 hb); replace BK279 := Aside0.mk (bb_ BK279 hb); replace HB := Aside0.mk (below_step (bl_2 HB GE278 GE279) hb); (try clear hb); (try clear ho0); obtain ⟨Ao13, co13, eo13⟩ := Kd.R_slice HO283.out; subst eo13) | ((with_reducible refine gate_dst (N := 7) rfl ?_); refine bx_ 7 #[.slice none 0 0, .bool false, .int .i64 0] 24 ?_; intro gb284 hg w14 hbox hb; replace HO283 := Aside0.mk (Kd.R_below (by (with_reducible repeat (first | apply Kd.R_alloc | apply Kd.R_drewN | apply Kd.R_drew)); exact HO283.out) hb); have BK284 := Aside0.mk (hbox); have GE284 := Aside0.mk (bs_2 hg HB GE278 GE279); replace HB := Aside0.mk (below_step (bl_2 HB GE278 GE279) hb); have NB278_284 := Aside0.mk (nb_ hg BK278); have NB284_278 := Aside0.mk (nc_ hg BK278); replace BK278 := Aside0.mk (bb_ BK278 hb); have NB279_284 := Aside0.mk (nb_ hg BK279); have NB284_279 := Aside0.mk (nc_ hg BK279); replace BK279 := Aside0.mk (bb_ BK279 hb); clear hb hbox hg; have hnb15 := NB284_278.out; have hnc15 := NB278_284.out; have hnb16 := NB284_279.out; have hnc16 := NB279_284.out; obtain ⟨hcz17_0, hcz17_1, hcz17_2, hfz17_0, hfz17_1, hfz17_2⟩ := c3_ BK284))
 repeat (go_step3; try (go_wp2_with (first | ((with_reducible refine gate_dst (N := 2) rfl ?_); refine bx_ 2 #[.slice A0_0 l0_0.length c0_0, .bool a0_1, .int .i64 a0_2] 24 ?_; intro gb278 hg w6 hbox hb; have BK278 := Aside0.mk (hbox); have GE278 := Aside0.mk (bs_0 hg HB); replace HB := Aside0.mk (below_step (bl_ HB) hb); clear hb hbox hg) | ((with_reducible refine gate_dst (N := 4) rfl ?_); refine bx_ 4 #[.slice none 0 0, .bool false, .int .i64 0] 24 ?_; intro gb279 hg w7 hbox hb; have BK279 := Aside0.mk (hbox); have GE279 := Aside0.mk (bs_1 hg HB GE278); replace HB := Aside0.mk (below_step (bl_1 HB GE278) hb); have NB278_279 := Aside0.mk (nb_ hg BK278); have NB279_278 := Aside0.mk (nc_ hg BK278); replace BK278 := Aside0.mk (bb_ BK278 hb); clear hb hbox hg; have hnb8 := NB278_279.out; have hnc8 := NB279_278.out; obtain ⟨hcz9_0, hcz9_1, hcz9_2, hfz9_0, hfz9_1, hfz9_2⟩ := c3_ BK278) | ((with_reducible refine gate_callee (f := 37) rfl ?_); refine goesL_ (some 12) rfl rfl Try.func37 (by kernel_rfl) rfl #[.agg #[.slice A0_0 l0_0.length c0_0, .bool a0_1, .int .i64 a0_2]] rfl (ar_) ?_; (with_reducible refine (disk_Check.calls k _ _ l0_0 a0_1 a0_2 t280 _ ?side1 ?side2 A3.out).mono ?_); (case side1 => exact cl_ (Kd.C_below HR0_0.out HB.out)); (case side2 => exact HC0_0.out); rintro e w10 ⟨rfl, hb⟩; refine ⟨_, rfl, ?_⟩; replace BK278 := Aside0.mk (bb_ BK278 hb); replace BK279 := Aside0.mk (bb_ BK279 hb); replace HB := Aside0.mk (below_step (bl_2 HB GE278 GE279) hb); (try clear hb); obtain ⟨hcz11_0, hcz11_1, hcz11_2, hfz11_0, hfz11_1, hfz11_2⟩ := c3_ BK278) | ((with_reducible refine gate_callee (f := 48) rfl ?_); refine goesL_ (some 19) rfl rfl Try.func48 (by kernel_rfl) rfl #[.slice A0_0 l0_0.length c0_0] rfl (ar_) ?_; (with_reducible refine (api_File_48.calls _ _ l0_0 t281 _ ?side1 ?side2 A5.out).mono ?_); (case side1 => exact cl_ (Kd.C_below HR0_0.out HB.out)); (case side2 => exact HC0_0.out); rintro e w12 ⟨v282, rfl, ho0, hb⟩; refine ⟨_, rfl, ?_⟩; have HO283 := Aside0.mk (Kd.R_lower ho0 (below_size (bl_2 HB GE278 GE279))); replace BK278 := Aside0.mk (bb_ BK278 hb); replace BK279 := Aside0.mk (bb_ BK279 hb); replace HB := Aside0.mk (below_step (bl_2 HB GE278 GE279) hb); (try clear hb); (try clear ho0); obtain ⟨Ao13, co13, eo13⟩ := Kd.R_slice HO283.out; subst eo13) | ((with_reducible refine gate_dst (N := 7) rfl ?_); refine bx_ 7 #[.slice none 0 0, .bool false, .int .i64 0] 24 ?_; intro gb284 hg w14 hbox hb; replace HO283 := Aside0.mk (Kd.R_below (by (with_reducible repeat (first | apply Kd.R_alloc | apply Kd.R_drewN | apply Kd.R_drew)); exact HO283.out) hb); have BK284 := Aside0.mk (hbox); have GE284 := Aside0.mk (bs_2 hg HB GE278 GE279); replace HB := Aside0.mk (below_step (bl_2 HB GE278 GE279) hb); have NB278_284 := Aside0.mk (nb_ hg BK278); have NB284_278 := Aside0.mk (nc_ hg BK278); replace BK278 := Aside0.mk (bb_ BK278 hb); have NB279_284 := Aside0.mk (nb_ hg BK279); have NB284_279 := Aside0.mk (nc_ hg BK279); replace BK279 := Aside0.mk (bb_ BK279 hb); clear hb hbox hg; have hnb15 := NB284_278.out; have hnc15 := NB278_284.out; have hnb16 := NB284_279.out; have hnc16 := NB279_284.out; obtain ⟨hcz17_0, hcz17_1, hcz17_2, hfz17_0, hfz17_1, hfz17_2⟩ := c3_ BK284))))
 go_loopg [24] k (fun kq v24 w' => ∃ (x24_1 : Int) (x285000_1 : List (S71)) (u285000 : Value), v24 = .int .i64 x24_1 ∧ Aside0 (disk_Crash.l0 kq l1 (t281.length : Int) x24_1 l0_0 a0_1 a0_2 x285000_1 false (-1) = some (r1, r2, r3, r4)) ∧ Aside0 (kq ≤ k) ∧ Aside0 (Kd.R k71 71 w' w.heap.size (fun _ => True) u285000 x285000_1) ∧ Aside0 (w'.heap[gb278]? = some (.cells #[(.slice A0_0 l0_0.length c0_0), .bool a0_1, .int .i64 a0_2] 24 (0, 0))) ∧ Aside0 (w'.heap[gb279]? = some (.cells #[(.slice none 0 0), .bool false, .int .i64 0] 24 (0, 0))) ∧ Aside0 (w'.heap[gb284]? = some (.cells #[u285000, .bool false, .int .i64 (-1)] 24 (0, 0))) ∧ Aside0 (Below w.heap.size w w'))
 case atStart => exact ⟨(0), (t281), (.slice Ao13 t281.length co13), (by first | rfl | (simp; done) | (simp [*]; done)), H', ⟨Nat.le_refl _⟩, ⟨by (with_reducible repeat (first | apply Kd.R_alloc | apply Kd.R_drewN | apply Kd.R_drew)); exact Kd.R_mono (Kd.R_far (p := ⟨gb284, 2, none⟩) (Kd.R_far (p := ⟨gb284, 1, none⟩) (Kd.R_far (p := ⟨gb284, 0, none⟩) (Kd.R_types HO283.out BK284.out (by decide)) (fun _ hk => hk.2) (.slice Ao13 t281.length co13)) (fun _ hk => hk.2) (.bool false)) (fun _ hk => hk.2) (.int .i64 (-1))) (fun _ hk => trivial)⟩, ⟨by (with_reducible repeat (first | refine blk_drewN ?_ _ | refine blk_drew ?_ | refine blk_alloc ?_ _)); refine blk_far ?_ NB278_284.out _; (with_reducible repeat (first | refine blk_drewN ?_ _ | refine blk_drew ?_ | refine blk_alloc ?_ _)); refine blk_far ?_ NB278_284.out _; (with_reducible repeat (first | refine blk_drewN ?_ _ | refine blk_drew ?_ | refine blk_alloc ?_ _)); refine blk_far ?_ NB278_284.out _; (with_reducible repeat (first | refine blk_drewN ?_ _ | refine blk_drew ?_ | refine blk_alloc ?_ _)); exact BK278.out⟩, ⟨by (with_reducible repeat (first | refine blk_drewN ?_ _ | refine blk_drew ?_ | refine blk_alloc ?_ _)); refine blk_far ?_ NB279_284.out _; (with_reducible repeat (first | refine blk_drewN ?_ _ | refine blk_drew ?_ | refine blk_alloc ?_ _)); refine blk_far ?_ NB279_284.out _; (with_reducible repeat (first | refine blk_drewN ?_ _ | refine blk_drew ?_ | refine blk_alloc ?_ _)); refine blk_far ?_ NB279_284.out _; (with_reducible repeat (first | refine blk_drewN ?_ _ | refine blk_drew ?_ | refine blk_alloc ?_ _)); exact BK279.out⟩, ⟨by (with_reducible repeat (first | refine blk_drewN ?_ _ | refine blk_drew ?_ | refine blk_alloc ?_ _)); refine blk_put (cs := #[.slice Ao13 t281.length co13, .bool false, .int .i64 0]) ?_ 2 _ rfl; (with_reducible repeat (first | refine blk_drewN ?_ _ | refine blk_drew ?_ | refine blk_alloc ?_ _)); refine blk_put (cs := #[.slice Ao13 t281.length co13, .bool false, .int .i64 0]) ?_ 1 _ rfl; (with_reducible repeat (first | refine blk_drewN ?_ _ | refine blk_drew ?_ | refine blk_alloc ?_ _)); refine blk_put (cs := #[.slice none 0 0, .bool false, .int .i64 0]) ?_ 0 _ rfl; (with_reducible repeat (first | refine blk_drewN ?_ _ | refine blk_drew ?_ | refine blk_alloc ?_ _)); exact BK284.out⟩, ⟨bl_3 HB GE278 GE279 GE284⟩⟩
 case round =>
  clear H'
  try clear c1
  try clear c2
  try clear p2
  try clear c3
  try clear c4
  try clear c4b0
  try clear c4b1
  try clear c8
  try clear c15
  try clear c16
  try clear hcz11_0
  try clear hcz11_1
  try clear hcz11_2
  try clear hcz17_0
  try clear hcz17_1
  try clear hcz17_2
  try clear hcz9_0
  try clear hcz9_1
  try clear hcz9_2
  try clear hfz11_0
  try clear hfz11_1
  try clear hfz11_2
  try clear hfz17_0
  try clear hfz17_1
  try clear hfz17_2
  try clear hfz9_0
  try clear hfz9_1
  try clear hfz9_2
  obtain ⟨x24_1, x285000_1, u285000, rfl, HA, HK1, HO_285000, BK278, BK279, BK284, HB⟩ := hrel
  cases gk with
  | zero => exact absurd HA.out (by simp [disk_Crash.l0])
  | succ k1 =>
   have H := HA.out
   clear HA
   simp only [disk_Crash.l0] at H
   by_cases c18 : x24_1 < (t281.length : Int)
   rotate_left
   ·rw [if_neg c18] at H
    have c18b0 : decide (x24_1 < (t281.length : Int)) = false := decide_eq_false c18
    clear c18
    simp only [Option.some.injEq, Prod.mk.injEq] at H
    obtain ⟨rfl, rfl, rfl, rfl⟩ := H
    have hnb58 := NB284_278.out
    have hnc58 := NB278_284.out
    have hnb59 := NB284_279.out
    have hnc59 := NB279_284.out
    obtain ⟨hcz60_0, hcz60_1, hcz60_2, hfz60_0, hfz60_1, hfz60_2⟩ := c3_ BK284
    obtain ⟨Ao61, co61, eo61⟩ := Kd.R_slice HO_285000.out
    subst eo61
    have hnb62 := NB279_278.out
    have hnc62 := NB278_279.out
    obtain ⟨hcz63_0, hcz63_1, hcz63_2, hfz63_0, hfz63_1, hfz63_2⟩ := c3_ BK279
    go_wp2
    repeat (go_step3; try (go_wp2))
    try dsimp only [Exit.noGoto]
    refine bodyPost_ret (results_ct rfl _ _ gb279 24 #[.slice Ao61 x285000_1.length co61, .bool false, .int .i64 (-1)] (0, 0) _ rfl (bp_0 BK279) Try.underlying24 rfl (by kernel_rfl)) rfl ?_
    exact ⟨_, by first | rfl | (simp; done) | (simp [*]; done), by (with_reducible repeat (first | apply Kd.R_alloc | apply Kd.R_drewN | apply Kd.R_drew)); exact Kd.R_mono (Kd.R_far (p := ⟨gb279, 2, none⟩) (Kd.R_far (p := ⟨gb279, 1, none⟩) (Kd.R_far (p := ⟨gb279, 0, none⟩) (Kd.R_types HO_285000.out BK279.out (by decide)) (fun _ hk => hk.2) (.slice Ao61 x285000_1.length co61)) (fun _ hk => hk.2) (.bool false)) (fun _ hk => hk.2) (.int .i64 (-1))) (fun _ hk => trivial), bl_3 HB GE278 GE279 GE284⟩
   rw [if_pos c18] at H
   have c18b0 : decide (x24_1 < (t281.length : Int)) = true := decide_eq_true c18
   clear c18
   by_cases c19 : 0 ≤ x24_1
   rotate_left
   ·rw [if_neg c19] at H
    exact absurd H (by simp)
   rw [if_pos c19] at H
   have c19b0 : decide (0 ≤ x24_1) = true := decide_eq_true c19
   clear c19
   by_cases c20 : x24_1 < (x285000_1.length : Int)
   rotate_left
   ·rw [if_neg c20] at H
    exact absurd H (by simp)
   rw [if_pos c20] at H
   have c20b0 : decide (x24_1 < (x285000_1.length : Int)) = true := decide_eq_true c20
   clear c20
   by_cases c22 : 0 ≤ ((rd_T71 x285000_1 x24_1).f2)
   rotate_left
   ·rw [if_neg c22] at H
    exact absurd H (by simp)
   rw [if_pos c22] at H
   have c22b0 := eq_true c22
   have c22b1 : decide (0 ≤ ((rd_T71 x285000_1 x24_1).f2)) = true := decide_eq_true c22
   clear c22
   by_cases c23 : ((rd_T71 x285000_1 x24_1).f2) ≤ (((rd_T71 x285000_1 x24_1).f1).size : Int)
   rotate_left
   ·rw [if_neg c23] at H
    exact absurd H (by simp)
   rw [if_pos c23] at H
   have c23b0 := eq_true c23
   have c23b1 : decide (((rd_T71 x285000_1 x24_1).f2) ≤ (((rd_T71 x285000_1 x24_1).f1).size : Int)) = true := decide_eq_true c23
   clear c23
   obtain ⟨y289, hy289⟩ : ∃ y_ : List (S71), y_ = (x285000_1.set (x24_1 : Int).toNat (⟨(rd_T71 x285000_1 x24_1).f0, ((rd_T71 x285000_1 x24_1).f1).extract 0 (((rd_T71 x285000_1 x24_1).f2) : Int).toNat, (rd_T71 x285000_1 x24_1).f2⟩ : S71)) := ⟨_, rfl⟩
   replace H : (if x24_1 ≥ (l1.length : Int) then (disk_Crash.l0 k1 l1 (t281.length : Int) (wrap64 (x24_1 + 1)) l0_0 a0_1 a0_2 y289 false (-1)) else (if x24_1 < (l1.length : Int) then (if (rd l1 x24_1) ≤ 0 then (disk_Crash.l0 k1 l1 (t281.length : Int) (wrap64 (x24_1 + 1)) l0_0 a0_1 a0_2 y289 false (-1)) else ((some (y289.set (x24_1 : Int).toNat (⟨(rd_T71 y289 x24_1).f0, (rd_T71 y289 x24_1).f1, wrap64 (((rd_T71 y289 x24_1).f2) + (mn (rd l1 x24_1) (wrap64 ((((rd_T71 x285000_1 x24_1).f1).size : Int) - ((rd_T71 x285000_1 x24_1).f2)))))⟩ : S71) : List (S71))).bind fun y293 => (if x24_1 < (l0_0.length : Int) then (if 0 ≤ ((rd_T71 y293 x24_1).f2) then (if ((rd_T71 y293 x24_1).f2) ≤ (((rd_T71 l0_0 x24_1).f1).size : Int) then (disk_Crash.l0 k1 l1 (t281.length : Int) (wrap64 (x24_1 + 1)) l0_0 a0_1 a0_2 (y293.set (x24_1 : Int).toNat (⟨(rd_T71 y293 x24_1).f0, ((rd_T71 l0_0 x24_1).f1).extract 0 (((rd_T71 y293 x24_1).f2) : Int).toNat, (rd_T71 y293 x24_1).f2⟩ : S71)) false (-1)) else (none)) else (none)) else (none)))) else (none))) = some (r1, r2, r3, r4) := by first | (rw [hy289]; with_reducible exact H) | (have H2_ := (Option.bind_some _ _).symm.trans H; rw [hy289]; with_reducible exact H2_) | (have H2_ := (Option.bind_some _ _).symm.trans H; with_reducible exact H2_) | with_reducible exact H | (rw [hy289]; exact H) | exact H
   have Ny289 := Aside0.mk hy289
   clear hy289
   by_cases c25 : x24_1 ≥ (l1.length : Int)
   ·rw [if_pos c25] at H
    have c25b0 : decide ((l1.length : Int) ≤ x24_1) = true := decide_eq_true c25
    clear c25
    have H' := Aside0.mk H
    clear H
    have hnb26 := NB284_278.out
    have hnc26 := NB278_284.out
    have hnb27 := NB284_279.out
    have hnc27 := NB279_284.out
    obtain ⟨hcz28_0, hcz28_1, hcz28_2, hfz28_0, hfz28_1, hfz28_2⟩ := c3_ BK284
    have p21 : 0 ≤ (x24_1 : Int) := of_decide_eq_true (by first | (with_reducible assumption) | assumption)
    have q21 : (x24_1 : Int) < ((x285000_1.length : Int) : Int) := of_decide_eq_true (by first | (with_reducible assumption) | assumption)
    obtain ⟨go21, co21, eo21, gb21, gl21, cl21, HG21⟩ := Kd.R_form HO_285000.out (by omega)
    (first | cases eo21 | (injection eo21 with ea_ en_ ec_; (first | subst ea_ | (injection ea_ with ea_; subst ea_)); subst ec_; clear en_))
    have GB21 := Aside0.mk gb21
    have GG21 := Aside0.mk HG21
    clear gb21 gl21 HG21
    obtain ⟨ce21, hcl21, hM21, hcc21, hfr21⟩ := Kd.R_elem HO_285000.out z71 (x24_1 : Int) p21 q21
    obtain rfl := k71_openM hM21
    have hx21_0 : wr.cell? ⟨go21, (x24_1 : Int).toNat * 3, none⟩ = some (.string ((rd_T71 x285000_1 x24_1).f0)) := hcc21 0 _ rfl
    have hx21_1 : wr.cell? ⟨go21, (x24_1 : Int).toNat * 3 + 1, none⟩ = some (.string ((rd_T71 x285000_1 x24_1).f1)) := hcc21 1 _ rfl
    have hx21_2 : wr.cell? ⟨go21, (x24_1 : Int).toNat * 3 + 2, none⟩ = some (.int .i64 ((rd_T71 x285000_1 x24_1).f2)) := hcc21 2 _ rfl
    have hf21_0 : wr.frozen? ⟨go21, (x24_1 : Int).toNat * 3, none⟩ = false := hfr21 0
    have hf21_1 : wr.frozen? ⟨go21, (x24_1 : Int).toNat * 3 + 1, none⟩ = false := hfr21 1
    have hf21_2 : wr.frozen? ⟨go21, (x24_1 : Int).toNat * 3 + 2, none⟩ = false := hfr21 2
    clear hcl21 hcc21 hfr21 hM21
    replace p21 := eq_true p21
    replace q21 := eq_true q21
    try go_wp2
    have n0_ := Aside0.mk (Kd.R_drew HO_285000.out)
    have n1_ := Aside0.mk (blk_drew BK278.out)
    have n2_ := Aside0.mk (blk_drew BK279.out)
    have n3_ := Aside0.mk (blk_drew BK284.out)
    have n4_ := Aside0.mk (below_drew1 HB.out)
    clear HO_285000
    clear BK278
    clear BK279
    clear BK284
    clear HB
    have HO_285000 := n0_
    have BK278 := n1_
    have BK279 := n2_
    have BK284 := n3_
    have HB := n4_
    clear n0_ n1_ n2_ n3_ n4_
    have p285 : 0 ≤ (x24_1 : Int) := of_decide_eq_true (by first | (with_reducible assumption) | assumption)
    have q285 : x24_1 < (x285000_1.length : Int) := of_decide_eq_true (by first | (with_reducible assumption) | assumption)
    obtain ⟨ad285, e285, hx285_0, hx285_1, hx285_2⟩ := at_T71 (Kd.R_reads' HO_285000.out).2.2 x24_1 p285 q285
    obtain rfl : (⟨go21, 0, none⟩ : Addr) = ad285 := (by injection e285)
    (first | simp only [add_plain] at hx285_0 | simp only [add_at] at hx285_0 | simp only [Addr.add, Nat.zero_add] at hx285_0 | skip)
    (first | simp only [add_plain] at hx285_1 | simp only [add_at] at hx285_1 | simp only [Addr.add, Nat.zero_add] at hx285_1 | skip)
    (first | simp only [add_plain] at hx285_2 | simp only [add_at] at hx285_2 | simp only [Addr.add, Nat.zero_add] at hx285_2 | skip)
    replace p285 := eq_true p285
    replace q285 := eq_true q285
    have p286 : 0 ≤ (x24_1 : Int) := of_decide_eq_true (by first | (with_reducible assumption) | assumption)
    have q286 : x24_1 < (x285000_1.length : Int) := of_decide_eq_true (by first | (with_reducible assumption) | assumption)
    obtain ⟨ad286, e286, hx286_0, hx286_1, hx286_2⟩ := at_T71 (Kd.R_reads' HO_285000.out).2.2 x24_1 p286 q286
    obtain rfl : (⟨go21, 0, none⟩ : Addr) = ad286 := (by injection e286)
    (first | simp only [add_plain] at hx286_0 | simp only [add_at] at hx286_0 | simp only [Addr.add, Nat.zero_add] at hx286_0 | skip)
    (first | simp only [add_plain] at hx286_1 | simp only [add_at] at hx286_1 | simp only [Addr.add, Nat.zero_add] at hx286_1 | skip)
    (first | simp only [add_plain] at hx286_2 | simp only [add_at] at hx286_2 | simp only [Addr.add, Nat.zero_add] at hx286_2 | skip)
    replace p286 := eq_true p286
    replace q286 := eq_true q286
    refine start_ (n := 11) (S := fun w' => w'.cell? ⟨go21, (x24_1).toNat * 3, none⟩ = some (.string ((rd_T71 x285000_1 x24_1).f0)) ∧ w'.cell? ⟨go21, (x24_1).toNat * 3 + 1, none⟩ = some (.string ((rd_T71 x285000_1 x24_1).f1)) ∧ w'.cell? ⟨go21, (x24_1).toNat * 3 + 2, none⟩ = some (.int .i64 ((rd_T71 x285000_1 x24_1).f2)) ∧ w'.cell? ⟨go21, (x24_1).toNat * 3, none⟩ = some (.string ((rd_T71 x285000_1 x24_1).f0)) ∧ w'.cell? ⟨go21, (x24_1).toNat * 3 + 1, none⟩ = some (.string ((rd_T71 x285000_1 x24_1).f1)) ∧ w'.cell? ⟨go21, (x24_1).toNat * 3 + 2, none⟩ = some (.int .i64 ((rd_T71 x285000_1 x24_1).f2))) (ds := []) #[false, false, false, false, false, false, false, false, false, false, false] (by kernel_rfl) rfl rfl ⟨hx285_0, hx285_1, hx285_2, hx286_0, hx286_1, hx286_2⟩ (fun hHeld => ?_); refine with_tabW disk_Crash.tab9 disk_Crash.bits9 (fun HT_ HW_ => ?_)
    generalize wr.drew = w29 at HO_285000 BK278 BK279 BK284 HB hx285_0 hx285_1 hx285_2 hx286_0 hx286_1 hx286_2 hHeld ⊢
    refine pure_ (i := 0) (N := some 31) (v := ?_) (a' := ?_) #[true, false, false, false, false, false, false, false, false, false, false] rfl rfl (any_of HT_.out (by kernel_rfl)) (fun _ _ _ h => h) (Or.inl ⟨by rfl, ?_⟩) ?_ ?_
    rotate_left
    ·intro w'
     go_simp
     with_reducible rfl
    rotate_left
    ·simp only [Act.put, List.setIfInBounds_toArray, List.set_cons_zero, List.set_cons_succ, i64_w, i32_w]
     rfl
    refine pure_ (i := 1) (N := some 32) (v := ?_) (a' := ?_) #[true, true, false, false, false, false, false, false, false, false, false] rfl rfl (any_of HT_.out (by kernel_rfl)) (fun _ _ _ h => h) (Or.inl ⟨by rfl, ?_⟩) ?_ ?_
    rotate_left
    ·intro w'
     go_simp
     with_reducible rfl
    rotate_left
    ·simp only [Act.put, List.setIfInBounds_toArray, List.set_cons_zero, List.set_cons_succ, i64_w, i32_w]
     rfl
    refine pure_ (i := 2) (N := some 33) (v := ?_) (a' := ?_) #[true, true, true, false, false, false, false, false, false, false, false] rfl rfl (any_of HT_.out (by kernel_rfl)) (fun _ _ _ h => h) (Or.inl ⟨by rfl, ?_⟩) ?_ ?_
    rotate_left
    ·intro w'
     go_simp
     with_reducible rfl
    rotate_left
    ·simp only [Act.put, List.setIfInBounds_toArray, List.set_cons_zero, List.set_cons_succ, i64_w, i32_w]
     rfl
    refine pure_ (i := 5) (N := some 36) (v := ?_) (a' := ?_) #[true, true, true, false, false, true, false, false, false, false, false] rfl rfl (any_of HT_.out (by kernel_rfl)) (fun _ _ _ h => h) (Or.inl ⟨by rfl, ?_⟩) ?_ ?_
    rotate_left
    ·intro w'
     go_simp
     with_reducible rfl
    rotate_left
    ·simp only [Act.put, List.setIfInBounds_toArray, List.set_cons_zero, List.set_cons_succ, i64_w, i32_w]
     rfl
    refine pure_ (i := 6) (N := some 37) (v := ?_) (a' := ?_) #[true, true, true, false, false, true, true, false, false, false, false] rfl rfl (any_of HT_.out (by kernel_rfl)) (fun _ _ _ h => h) (Or.inl ⟨by rfl, ?_⟩) ?_ ?_
    rotate_left
    ·intro w'
     go_simp
     with_reducible rfl
    rotate_left
    ·simp only [Act.put, List.setIfInBounds_toArray, List.set_cons_zero, List.set_cons_succ, i64_w, i32_w]
     rfl
    refine pure_ (i := 7) (N := some 38) (v := ?_) (a' := ?_) #[true, true, true, false, false, true, true, true, false, false, false] rfl rfl (any_of HT_.out (by kernel_rfl)) (fun _ _ _ h => h) (Or.inl ⟨by rfl, ?_⟩) ?_ ?_
    rotate_left
    ·intro w'
     go_simp
     with_reducible rfl
    rotate_left
    ·simp only [Act.put, List.setIfInBounds_toArray, List.set_cons_zero, List.set_cons_succ, i64_w, i32_w]
     rfl
    refine take_ (i := 3) (N := some 34) (v := ?_) (a' := ?_) #[true, true, true, true, false, true, true, true, false, false, false] rfl rfl (take_ofW HT_.out HW_.out (by kernel_rfl)) (fun _ _ _ h => h) (Or.inl ⟨by rfl, ?_⟩) hHeld ?_ ?_
    rotate_left
    ·rintro w' ⟨s0, s1, s2, s3, s4, s5⟩
     go_simp
     with_reducible rfl
    rotate_left
    ·simp only [Act.put, List.setIfInBounds_toArray, List.set_cons_zero, List.set_cons_succ, i64_w, i32_w]
     rfl
    refine pure_ (i := 4) (N := some 35) (v := ?_) (a' := ?_) #[true, true, true, true, true, true, true, true, false, false, false] rfl rfl (any_of HT_.out (by kernel_rfl)) (fun _ _ _ h => h) (Or.inl ⟨by rfl, ?_⟩) ?_ ?_
    rotate_left
    ·intro w'
     go_simp
     with_reducible rfl
    rotate_left
    ·simp only [Act.put, List.setIfInBounds_toArray, List.set_cons_zero, List.set_cons_succ, i64_w, i32_w]
     rfl
    refine take_ (i := 8) (N := some 39) (v := ?_) (a' := ?_) #[true, true, true, true, true, true, true, true, true, false, false] rfl rfl (take_ofW HT_.out HW_.out (by kernel_rfl)) (fun _ _ _ h => h) (Or.inl ⟨by rfl, ?_⟩) hHeld ?_ ?_
    rotate_left
    ·rintro w' ⟨s0, s1, s2, s3, s4, s5⟩
     go_simp
     with_reducible rfl
    rotate_left
    ·simp only [Act.put, List.setIfInBounds_toArray, List.set_cons_zero, List.set_cons_succ, i64_w, i32_w]
     rfl
    refine pure_ (i := 9) (N := some 40) (v := ?_) (a' := ?_) #[true, true, true, true, true, true, true, true, true, true, false] rfl rfl (any_of HT_.out (by kernel_rfl)) (fun _ _ _ h => h) (Or.inl ⟨by rfl, ?_⟩) ?_ ?_
    rotate_left
    ·intro w'
     go_simp
     with_reducible rfl
    rotate_left
    ·simp only [Act.put, List.setIfInBounds_toArray, List.set_cons_zero, List.set_cons_succ, i64_w, i32_w]
     rfl
    refine pure_ (i := 10) (N := some 10) (v := ?_) (a' := ?_) #[true, true, true, true, true, true, true, true, true, true, true] rfl rfl (any_of HT_.out (by kernel_rfl)) (fun _ _ _ h => h) (Or.inl ⟨by rfl, ?_⟩) ?_ ?_
    rotate_left
    ·intro w'
     go_simp
     with_reducible rfl
    rotate_left
    ·simp only [Act.put, List.setIfInBounds_toArray, List.set_cons_zero, List.set_cons_succ, i64_w, i32_w]
     rfl
    refine done_ (done_of HT_.out (by kernel_rfl)) ?_
    try go_wp2
    have n0_ := Aside0.mk (Kd.R_drew HO_285000.out)
    have n1_ := Aside0.mk (blk_drew BK278.out)
    have n2_ := Aside0.mk (blk_drew BK279.out)
    have n3_ := Aside0.mk (blk_drew BK284.out)
    have n4_ := Aside0.mk (below_drew1 HB.out)
    clear HO_285000
    clear BK278
    clear BK279
    clear BK284
    clear HB
    have HO_285000 := n0_
    have BK278 := n1_
    have BK279 := n2_
    have BK284 := n3_
    have HB := n4_
    clear n0_ n1_ n2_ n3_ n4_
    have p287 : 0 ≤ (x24_1 : Int) := of_decide_eq_true (by first | (with_reducible assumption) | assumption)
    have q287 : x24_1 < (x285000_1.length : Int) := of_decide_eq_true (by first | (with_reducible assumption) | assumption)
    obtain ⟨ad287, e287, hx287_0, hx287_1, hx287_2⟩ := at_T71 (Kd.R_reads' HO_285000.out).2.2 x24_1 p287 q287
    obtain rfl : (⟨go21, 0, none⟩ : Addr) = ad287 := (by injection e287)
    (first | simp only [add_plain] at hx287_0 | simp only [add_at] at hx287_0 | simp only [Addr.add, Nat.zero_add] at hx287_0 | skip)
    (first | simp only [add_plain] at hx287_1 | simp only [add_at] at hx287_1 | simp only [Addr.add, Nat.zero_add] at hx287_1 | skip)
    (first | simp only [add_plain] at hx287_2 | simp only [add_at] at hx287_2 | simp only [Addr.add, Nat.zero_add] at hx287_2 | skip)
    replace p287 := eq_true p287
    replace q287 := eq_true q287
    have p288 : 0 ≤ (x24_1 : Int) := of_decide_eq_true (by first | (with_reducible assumption) | assumption)
    have q288 : x24_1 < (x285000_1.length : Int) := of_decide_eq_true (by first | (with_reducible assumption) | assumption)
    obtain ⟨ad288, e288, hx288_0, hx288_1, hx288_2⟩ := at_T71 (Kd.R_reads' HO_285000.out).2.2 x24_1 p288 q288
    obtain rfl : (⟨go21, 0, none⟩ : Addr) = ad288 := (by injection e288)
    (first | simp only [add_plain] at hx288_0 | simp only [add_at] at hx288_0 | simp only [Addr.add, Nat.zero_add] at hx288_0 | skip)
    (first | simp only [add_plain] at hx288_1 | simp only [add_at] at hx288_1 | simp only [Addr.add, Nat.zero_add] at hx288_1 | skip)
    (first | simp only [add_plain] at hx288_2 | simp only [add_at] at hx288_2 | simp only [Addr.add, Nat.zero_add] at hx288_2 | skip)
    replace p288 := eq_true p288
    replace q288 := eq_true q288
    have p24 : 0 ≤ (x24_1 : Int) := of_decide_eq_true (by first | (with_reducible assumption) | assumption)
    have q24 : (x24_1 : Int) < ((x285000_1.length : Int) : Int) := of_decide_eq_true (by first | (with_reducible assumption) | assumption)
    obtain ⟨ce24, hcl24, hM24, hcc24, hfr24⟩ := Kd.R_elem HO_285000.out z71 (x24_1 : Int) p24 q24
    obtain rfl := k71_openM hM24
    have hx24_0 : World.cell? _ ⟨go21, (x24_1 : Int).toNat * 3, none⟩ = some (.string ((rd_T71 x285000_1 x24_1).f0)) := hcc24 0 _ rfl
    have hx24_1 : World.cell? _ ⟨go21, (x24_1 : Int).toNat * 3 + 1, none⟩ = some (.string ((rd_T71 x285000_1 x24_1).f1)) := hcc24 1 _ rfl
    have hx24_2 : World.cell? _ ⟨go21, (x24_1 : Int).toNat * 3 + 2, none⟩ = some (.int .i64 ((rd_T71 x285000_1 x24_1).f2)) := hcc24 2 _ rfl
    have hf24_0 : World.frozen? _ ⟨go21, (x24_1 : Int).toNat * 3, none⟩ = false := hfr24 0
    have hf24_1 : World.frozen? _ ⟨go21, (x24_1 : Int).toNat * 3 + 1, none⟩ = false := hfr24 1
    have hf24_2 : World.frozen? _ ⟨go21, (x24_1 : Int).toNat * 3 + 2, none⟩ = false := hfr24 2
    clear hcl24 hcc24 hfr24 hM24
    replace p24 := eq_true p24
    replace q24 := eq_true q24
    obtain ⟨ce31, hcl31, hM31, hcc31, hfr31⟩ := Kd.R_elem HO_285000.out z71 (x24_1 : Int) (of_decide_eq_true (by first | (with_reducible assumption) | assumption)) (by have h_ : (x24_1 : Int) < ((x285000_1.length : Int) : Int) := of_decide_eq_true (by first | (with_reducible assumption) | assumption); first | exact h_ | (have e_ := (Kd.R_reads' HO_285000.out).1; omega) | simpa using h_)
    obtain rfl := k71_openM hM31
    have HP31 := (Kd.R_seg HO_285000.out (x24_1 : Int) (of_decide_eq_true (by first | (with_reducible assumption) | assumption)) (by have h_ : (x24_1 : Int) < ((x285000_1.length : Int) : Int) := of_decide_eq_true (by first | (with_reducible assumption) | assumption); first | exact h_ | (have e_ := (Kd.R_reads' HO_285000.out).1; omega) | simpa using h_) (seg := [.string (((rd_T71 x285000_1 x24_1).f1).extract 0 (((rd_T71 x285000_1 x24_1).f2) : Int).toNat)]) (j := 1) hcl31 hcc31 (show 2 ≤ 3 from by decide) (x' := (⟨(rd_T71 x285000_1 x24_1).f0, ((rd_T71 x285000_1 x24_1).f1).extract 0 (((rd_T71 x285000_1 x24_1).f2) : Int).toNat, (rd_T71 x285000_1 x24_1).f2⟩ : S71)) (k71_mkM _ _ _ (⟨(rd_T71 x285000_1 x24_1).f0, ((rd_T71 x285000_1 x24_1).f1).extract 0 (((rd_T71 x285000_1 x24_1).f2) : Int).toNat, (rd_T71 x285000_1 x24_1).f2⟩ : S71) ) (fun _ hk => hk)).1
    rw [← Ny289.out] at HP31
    have HQ31 := Aside0.mk HP31
    clear hcl31 hcc31 hfr31 hM31 HP31
    refine start_ (n := 13) (S := fun w' => w'.cell? ⟨go21, (x24_1).toNat * 3, none⟩ = some (.string ((rd_T71 x285000_1 x24_1).f0)) ∧ w'.cell? ⟨go21, (x24_1).toNat * 3 + 1, none⟩ = some (.string ((rd_T71 x285000_1 x24_1).f1)) ∧ w'.cell? ⟨go21, (x24_1).toNat * 3 + 2, none⟩ = some (.int .i64 ((rd_T71 x285000_1 x24_1).f2)) ∧ w'.cell? ⟨go21, (x24_1).toNat * 3, none⟩ = some (.string ((rd_T71 x285000_1 x24_1).f0)) ∧ w'.cell? ⟨go21, (x24_1).toNat * 3 + 1, none⟩ = some (.string ((rd_T71 x285000_1 x24_1).f1)) ∧ w'.cell? ⟨go21, (x24_1).toNat * 3 + 2, none⟩ = some (.int .i64 ((rd_T71 x285000_1 x24_1).f2))) (ds := [12]) #[false, false, false, false, false, false, false, false, false, false, false, false, false] (by kernel_rfl) rfl rfl ⟨hx287_0, hx287_1, hx287_2, hx288_0, hx288_1, hx288_2⟩ (fun hHeld => ?_); refine with_tabW disk_Crash.tab10 disk_Crash.bits10 (fun HT_ HW_ => ?_)
    generalize w29.drew = w30 at HO_285000 BK278 BK279 BK284 HB HQ31 hf24_0 hf24_1 hf24_2 hx24_0 hx24_1 hx24_2 hx287_0 hx287_1 hx287_2 hx288_0 hx288_1 hx288_2 hHeld ⊢
    refine pure_ (i := 0) (N := some 41) (v := ?_) (a' := ?_) #[true, false, false, false, false, false, false, false, false, false, false, false, false] rfl rfl (any_of HT_.out (by kernel_rfl)) (fun _ _ _ h => h) (Or.inl ⟨by rfl, ?_⟩) ?_ ?_
    rotate_left
    ·intro w'
     go_simp
     with_reducible rfl
    rotate_left
    ·simp only [Act.put, List.setIfInBounds_toArray, List.set_cons_zero, List.set_cons_succ, i64_w, i32_w]
     rfl
    refine pure_ (i := 1) (N := some 42) (v := ?_) (a' := ?_) #[true, true, false, false, false, false, false, false, false, false, false, false, false] rfl rfl (any_of HT_.out (by kernel_rfl)) (fun _ _ _ h => h) (Or.inl ⟨by rfl, ?_⟩) ?_ ?_
    rotate_left
    ·intro w'
     go_simp
     with_reducible rfl
    rotate_left
    ·simp only [Act.put, List.setIfInBounds_toArray, List.set_cons_zero, List.set_cons_succ, i64_w, i32_w]
     rfl
    refine pure_ (i := 2) (N := some 43) (v := ?_) (a' := ?_) #[true, true, true, false, false, false, false, false, false, false, false, false, false] rfl rfl (any_of HT_.out (by kernel_rfl)) (fun _ _ _ h => h) (Or.inl ⟨by rfl, ?_⟩) ?_ ?_
    rotate_left
    ·intro w'
     go_simp
     with_reducible rfl
    rotate_left
    ·simp only [Act.put, List.setIfInBounds_toArray, List.set_cons_zero, List.set_cons_succ, i64_w, i32_w]
     rfl
    refine pure_ (i := 3) (N := some 44) (v := ?_) (a' := ?_) #[true, true, true, true, false, false, false, false, false, false, false, false, false] rfl rfl (any_of HT_.out (by kernel_rfl)) (fun _ _ _ h => h) (Or.inl ⟨by rfl, ?_⟩) ?_ ?_
    rotate_left
    ·intro w'
     go_simp
     with_reducible rfl
    rotate_left
    ·simp only [Act.put, List.setIfInBounds_toArray, List.set_cons_zero, List.set_cons_succ, i64_w, i32_w]
     rfl
    refine pure_ (i := 5) (N := some 46) (v := ?_) (a' := ?_) #[true, true, true, true, false, true, false, false, false, false, false, false, false] rfl rfl (any_of HT_.out (by kernel_rfl)) (fun _ _ _ h => h) (Or.inl ⟨by rfl, ?_⟩) ?_ ?_
    rotate_left
    ·intro w'
     go_simp
     with_reducible rfl
    rotate_left
    ·simp only [Act.put, List.setIfInBounds_toArray, List.set_cons_zero, List.set_cons_succ, i64_w, i32_w]
     rfl
    refine pure_ (i := 6) (N := some 47) (v := ?_) (a' := ?_) #[true, true, true, true, false, true, true, false, false, false, false, false, false] rfl rfl (any_of HT_.out (by kernel_rfl)) (fun _ _ _ h => h) (Or.inl ⟨by rfl, ?_⟩) ?_ ?_
    rotate_left
    ·intro w'
     go_simp
     with_reducible rfl
    rotate_left
    ·simp only [Act.put, List.setIfInBounds_toArray, List.set_cons_zero, List.set_cons_succ, i64_w, i32_w]
     rfl
    refine pure_ (i := 7) (N := some 48) (v := ?_) (a' := ?_) #[true, true, true, true, false, true, true, true, false, false, false, false, false] rfl rfl (any_of HT_.out (by kernel_rfl)) (fun _ _ _ h => h) (Or.inl ⟨by rfl, ?_⟩) ?_ ?_
    rotate_left
    ·intro w'
     go_simp
     with_reducible rfl
    rotate_left
    ·simp only [Act.put, List.setIfInBounds_toArray, List.set_cons_zero, List.set_cons_succ, i64_w, i32_w]
     rfl
    refine take_ (i := 4) (N := some 45) (v := ?_) (a' := ?_) #[true, true, true, true, true, true, true, true, false, false, false, false, false] rfl rfl (take_ofW HT_.out HW_.out (by kernel_rfl)) (fun _ _ _ h => h) (Or.inl ⟨by rfl, ?_⟩) hHeld ?_ ?_
    rotate_left
    ·rintro w' ⟨s0, s1, s2, s3, s4, s5⟩
     go_simp
     with_reducible rfl
    rotate_left
    ·simp only [Act.put, List.setIfInBounds_toArray, List.set_cons_zero, List.set_cons_succ, i64_w, i32_w]
     rfl
    refine take_ (i := 8) (N := some 49) (v := ?_) (a' := ?_) #[true, true, true, true, true, true, true, true, true, false, false, false, false] rfl rfl (take_ofW HT_.out HW_.out (by kernel_rfl)) (fun _ _ _ h => h) (Or.inl ⟨by rfl, ?_⟩) hHeld ?_ ?_
    rotate_left
    ·rintro w' ⟨s0, s1, s2, s3, s4, s5⟩
     go_simp
     with_reducible rfl
    rotate_left
    ·simp only [Act.put, List.setIfInBounds_toArray, List.set_cons_zero, List.set_cons_succ, i64_w, i32_w]
     rfl
    refine pure_ (i := 9) (N := some 50) (v := ?_) (a' := ?_) #[true, true, true, true, true, true, true, true, true, true, false, false, false] rfl rfl (any_of HT_.out (by kernel_rfl)) (fun _ _ _ h => h) (Or.inl ⟨by rfl, ?_⟩) ?_ ?_
    rotate_left
    ·intro w'
     go_simp
     with_reducible rfl
    rotate_left
    ·simp only [Act.put, List.setIfInBounds_toArray, List.set_cons_zero, List.set_cons_succ, i64_w, i32_w]
     rfl
    refine pure_ (i := 10) (N := some 51) (v := ?_) (a' := ?_) #[true, true, true, true, true, true, true, true, true, true, true, false, false] rfl rfl (any_of HT_.out (by kernel_rfl)) (fun _ _ _ h => h) (Or.inl ⟨by rfl, ?_⟩) ?_ ?_
    rotate_left
    ·intro w'
     go_simp
     with_reducible rfl
    rotate_left
    ·simp only [Act.put, List.setIfInBounds_toArray, List.set_cons_zero, List.set_cons_succ, i64_w, i32_w]
     rfl
    refine pure_ (i := 11) (N := some 52) (v := ?_) (a' := ?_) #[true, true, true, true, true, true, true, true, true, true, true, true, false] rfl rfl (any_of HT_.out (by kernel_rfl)) (fun _ _ _ h => h) (Or.inl ⟨by rfl, ?_⟩) ?_ ?_
    rotate_left
    ·intro w'
     go_simp
     with_reducible rfl
    rotate_left
    ·simp only [Act.put, List.setIfInBounds_toArray, List.set_cons_zero, List.set_cons_succ, i64_w, i32_w]
     rfl
    refine last_ (i := 12) (N := none) #[true, true, true, true, true, true, true, true, true, true, true, true, true] rfl rfl (one_of HT_.out (by kernel_rfl)) (by decide) (fun K hK => ?_)
    refine skip_ (w1 := ?_) (by rfl) rfl ?_ ?_
    rotate_left
    ·go_simp
     rfl
    refine hK.out _ _ ?_
    clear hK K
    refine done_ (done_of HT_.out (by kernel_rfl)) ?_
    try go_wp2
    go_roundg k1
    case measure => have := HK1.out; omega
    case rel => exact ⟨(wrap64 (x24_1 + 1)), (y289), (.slice (some ⟨go21, 0, none⟩) x285000_1.length co21), (by first | rfl | (simp; done) | (simp [*]; done)), H', ⟨by have := HK1.out; omega⟩, ⟨by (with_reducible repeat (first | apply Kd.R_alloc | apply Kd.R_drewN | apply Kd.R_drew)); exact HQ31.out⟩, ⟨by (with_reducible repeat (first | refine blk_drewN ?_ _ | refine blk_drew ?_ | refine blk_alloc ?_ _)); refine blk_far ?_ (by have h_ := Kd.R_ne HO_285000.out BK278.out (by decide); intro e_; exact h_ (by rw [e_]; rfl)) _; (with_reducible repeat (first | refine blk_drewN ?_ _ | refine blk_drew ?_ | refine blk_alloc ?_ _)); exact BK278.out⟩, ⟨by (with_reducible repeat (first | refine blk_drewN ?_ _ | refine blk_drew ?_ | refine blk_alloc ?_ _)); refine blk_far ?_ (by have h_ := Kd.R_ne HO_285000.out BK279.out (by decide); intro e_; exact h_ (by rw [e_]; rfl)) _; (with_reducible repeat (first | refine blk_drewN ?_ _ | refine blk_drew ?_ | refine blk_alloc ?_ _)); exact BK279.out⟩, ⟨by (with_reducible repeat (first | refine blk_drewN ?_ _ | refine blk_drew ?_ | refine blk_alloc ?_ _)); refine blk_far ?_ (by have h_ := Kd.R_ne HO_285000.out BK284.out (by decide); intro e_; exact h_ (by rw [e_]; rfl)) _; (with_reducible repeat (first | refine blk_drewN ?_ _ | refine blk_drew ?_ | refine blk_alloc ?_ _)); exact BK284.out⟩, ⟨bl_4 HB GB21 GE278 GE279 GE284⟩⟩
   rw [if_neg c25] at H
   have c25b0 : decide ((l1.length : Int) ≤ x24_1) = false := decide_eq_false c25
   clear c25
   by_cases c32 : x24_1 < (l1.length : Int)
   rotate_left
   ·rw [if_neg c32] at H
    exact absurd H (by simp)
   rw [if_pos c32] at H
   have c32b0 : decide (x24_1 < (l1.length : Int)) = true := decide_eq_true c32
   clear c32
   by_cases c33 : (rd l1 x24_1) ≤ 0
   ·rw [if_pos c33] at H
    have c33b0 : decide ((rd l1 x24_1) ≤ 0) = true := decide_eq_true c33
    clear c33
    have H' := Aside0.mk H
    clear H
    have hnb34 := NB284_278.out
    have hnc34 := NB278_284.out
    have hnb35 := NB284_279.out
    have hnc35 := NB279_284.out
    obtain ⟨hcz36_0, hcz36_1, hcz36_2, hfz36_0, hfz36_1, hfz36_2⟩ := c3_ BK284
    have p21 : 0 ≤ (x24_1 : Int) := of_decide_eq_true (by first | (with_reducible assumption) | assumption)
    have q21 : (x24_1 : Int) < ((x285000_1.length : Int) : Int) := of_decide_eq_true (by first | (with_reducible assumption) | assumption)
    obtain ⟨go21, co21, eo21, gb21, gl21, cl21, HG21⟩ := Kd.R_form HO_285000.out (by omega)
    (first | cases eo21 | (injection eo21 with ea_ en_ ec_; (first | subst ea_ | (injection ea_ with ea_; subst ea_)); subst ec_; clear en_))
    have GB21 := Aside0.mk gb21
    have GG21 := Aside0.mk HG21
    clear gb21 gl21 HG21
    obtain ⟨ce21, hcl21, hM21, hcc21, hfr21⟩ := Kd.R_elem HO_285000.out z71 (x24_1 : Int) p21 q21
    obtain rfl := k71_openM hM21
    have hx21_0 : wr.cell? ⟨go21, (x24_1 : Int).toNat * 3, none⟩ = some (.string ((rd_T71 x285000_1 x24_1).f0)) := hcc21 0 _ rfl
    have hx21_1 : wr.cell? ⟨go21, (x24_1 : Int).toNat * 3 + 1, none⟩ = some (.string ((rd_T71 x285000_1 x24_1).f1)) := hcc21 1 _ rfl
    have hx21_2 : wr.cell? ⟨go21, (x24_1 : Int).toNat * 3 + 2, none⟩ = some (.int .i64 ((rd_T71 x285000_1 x24_1).f2)) := hcc21 2 _ rfl
    have hf21_0 : wr.frozen? ⟨go21, (x24_1 : Int).toNat * 3, none⟩ = false := hfr21 0
    have hf21_1 : wr.frozen? ⟨go21, (x24_1 : Int).toNat * 3 + 1, none⟩ = false := hfr21 1
    have hf21_2 : wr.frozen? ⟨go21, (x24_1 : Int).toNat * 3 + 2, none⟩ = false := hfr21 2
    clear hcl21 hcc21 hfr21 hM21
    replace p21 := eq_true p21
    replace q21 := eq_true q21
    try go_wp2
    have n0_ := Aside0.mk (Kd.R_drew HO_285000.out)
    have n1_ := Aside0.mk (blk_drew BK278.out)
    have n2_ := Aside0.mk (blk_drew BK279.out)
    have n3_ := Aside0.mk (blk_drew BK284.out)
    have n4_ := Aside0.mk (below_drew1 HB.out)
    clear HO_285000
    clear BK278
    clear BK279
    clear BK284
    clear HB
    have HO_285000 := n0_
    have BK278 := n1_
    have BK279 := n2_
    have BK284 := n3_
    have HB := n4_
    clear n0_ n1_ n2_ n3_ n4_
    have p285 : 0 ≤ (x24_1 : Int) := of_decide_eq_true (by first | (with_reducible assumption) | assumption)
    have q285 : x24_1 < (x285000_1.length : Int) := of_decide_eq_true (by first | (with_reducible assumption) | assumption)
    obtain ⟨ad285, e285, hx285_0, hx285_1, hx285_2⟩ := at_T71 (Kd.R_reads' HO_285000.out).2.2 x24_1 p285 q285
    obtain rfl : (⟨go21, 0, none⟩ : Addr) = ad285 := (by injection e285)
    (first | simp only [add_plain] at hx285_0 | simp only [add_at] at hx285_0 | simp only [Addr.add, Nat.zero_add] at hx285_0 | skip)
    (first | simp only [add_plain] at hx285_1 | simp only [add_at] at hx285_1 | simp only [Addr.add, Nat.zero_add] at hx285_1 | skip)
    (first | simp only [add_plain] at hx285_2 | simp only [add_at] at hx285_2 | simp only [Addr.add, Nat.zero_add] at hx285_2 | skip)
    replace p285 := eq_true p285
    replace q285 := eq_true q285
    have p286 : 0 ≤ (x24_1 : Int) := of_decide_eq_true (by first | (with_reducible assumption) | assumption)
    have q286 : x24_1 < (x285000_1.length : Int) := of_decide_eq_true (by first | (with_reducible assumption) | assumption)
    obtain ⟨ad286, e286, hx286_0, hx286_1, hx286_2⟩ := at_T71 (Kd.R_reads' HO_285000.out).2.2 x24_1 p286 q286
    obtain rfl : (⟨go21, 0, none⟩ : Addr) = ad286 := (by injection e286)
    (first | simp only [add_plain] at hx286_0 | simp only [add_at] at hx286_0 | simp only [Addr.add, Nat.zero_add] at hx286_0 | skip)
    (first | simp only [add_plain] at hx286_1 | simp only [add_at] at hx286_1 | simp only [Addr.add, Nat.zero_add] at hx286_1 | skip)
    (first | simp only [add_plain] at hx286_2 | simp only [add_at] at hx286_2 | simp only [Addr.add, Nat.zero_add] at hx286_2 | skip)
    replace p286 := eq_true p286
    replace q286 := eq_true q286
    refine start_ (n := 11) (S := fun w' => w'.cell? ⟨go21, (x24_1).toNat * 3, none⟩ = some (.string ((rd_T71 x285000_1 x24_1).f0)) ∧ w'.cell? ⟨go21, (x24_1).toNat * 3 + 1, none⟩ = some (.string ((rd_T71 x285000_1 x24_1).f1)) ∧ w'.cell? ⟨go21, (x24_1).toNat * 3 + 2, none⟩ = some (.int .i64 ((rd_T71 x285000_1 x24_1).f2)) ∧ w'.cell? ⟨go21, (x24_1).toNat * 3, none⟩ = some (.string ((rd_T71 x285000_1 x24_1).f0)) ∧ w'.cell? ⟨go21, (x24_1).toNat * 3 + 1, none⟩ = some (.string ((rd_T71 x285000_1 x24_1).f1)) ∧ w'.cell? ⟨go21, (x24_1).toNat * 3 + 2, none⟩ = some (.int .i64 ((rd_T71 x285000_1 x24_1).f2))) (ds := []) #[false, false, false, false, false, false, false, false, false, false, false] (by kernel_rfl) rfl rfl ⟨hx285_0, hx285_1, hx285_2, hx286_0, hx286_1, hx286_2⟩ (fun hHeld => ?_); refine with_tabW disk_Crash.tab9 disk_Crash.bits9 (fun HT_ HW_ => ?_)
    generalize wr.drew = w37 at HO_285000 BK278 BK279 BK284 HB hx285_0 hx285_1 hx285_2 hx286_0 hx286_1 hx286_2 hHeld ⊢
    refine pure_ (i := 0) (N := some 31) (v := ?_) (a' := ?_) #[true, false, false, false, false, false, false, false, false, false, false] rfl rfl (any_of HT_.out (by kernel_rfl)) (fun _ _ _ h => h) (Or.inl ⟨by rfl, ?_⟩) ?_ ?_
    rotate_left
    ·intro w'
     go_simp
     with_reducible rfl
    rotate_left
    ·simp only [Act.put, List.setIfInBounds_toArray, List.set_cons_zero, List.set_cons_succ, i64_w, i32_w]
     rfl
    refine pure_ (i := 1) (N := some 32) (v := ?_) (a' := ?_) #[true, true, false, false, false, false, false, false, false, false, false] rfl rfl (any_of HT_.out (by kernel_rfl)) (fun _ _ _ h => h) (Or.inl ⟨by rfl, ?_⟩) ?_ ?_
    rotate_left
    ·intro w'
     go_simp
     with_reducible rfl
    rotate_left
    ·simp only [Act.put, List.setIfInBounds_toArray, List.set_cons_zero, List.set_cons_succ, i64_w, i32_w]
     rfl
    refine pure_ (i := 2) (N := some 33) (v := ?_) (a' := ?_) #[true, true, true, false, false, false, false, false, false, false, false] rfl rfl (any_of HT_.out (by kernel_rfl)) (fun _ _ _ h => h) (Or.inl ⟨by rfl, ?_⟩) ?_ ?_
    rotate_left
    ·intro w'
     go_simp
     with_reducible rfl
    rotate_left
    ·simp only [Act.put, List.setIfInBounds_toArray, List.set_cons_zero, List.set_cons_succ, i64_w, i32_w]
     rfl
    refine pure_ (i := 5) (N := some 36) (v := ?_) (a' := ?_) #[true, true, true, false, false, true, false, false, false, false, false] rfl rfl (any_of HT_.out (by kernel_rfl)) (fun _ _ _ h => h) (Or.inl ⟨by rfl, ?_⟩) ?_ ?_
    rotate_left
    ·intro w'
     go_simp
     with_reducible rfl
    rotate_left
    ·simp only [Act.put, List.setIfInBounds_toArray, List.set_cons_zero, List.set_cons_succ, i64_w, i32_w]
     rfl
    refine pure_ (i := 6) (N := some 37) (v := ?_) (a' := ?_) #[true, true, true, false, false, true, true, false, false, false, false] rfl rfl (any_of HT_.out (by kernel_rfl)) (fun _ _ _ h => h) (Or.inl ⟨by rfl, ?_⟩) ?_ ?_
    rotate_left
    ·intro w'
     go_simp
     with_reducible rfl
    rotate_left
    ·simp only [Act.put, List.setIfInBounds_toArray, List.set_cons_zero, List.set_cons_succ, i64_w, i32_w]
     rfl
    refine pure_ (i := 7) (N := some 38) (v := ?_) (a' := ?_) #[true, true, true, false, false, true, true, true, false, false, false] rfl rfl (any_of HT_.out (by kernel_rfl)) (fun _ _ _ h => h) (Or.inl ⟨by rfl, ?_⟩) ?_ ?_
    rotate_left
    ·intro w'
     go_simp
     with_reducible rfl
    rotate_left
    ·simp only [Act.put, List.setIfInBounds_toArray, List.set_cons_zero, List.set_cons_succ, i64_w, i32_w]
     rfl
    refine take_ (i := 3) (N := some 34) (v := ?_) (a' := ?_) #[true, true, true, true, false, true, true, true, false, false, false] rfl rfl (take_ofW HT_.out HW_.out (by kernel_rfl)) (fun _ _ _ h => h) (Or.inl ⟨by rfl, ?_⟩) hHeld ?_ ?_
    rotate_left
    ·rintro w' ⟨s0, s1, s2, s3, s4, s5⟩
     go_simp
     with_reducible rfl
    rotate_left
    ·simp only [Act.put, List.setIfInBounds_toArray, List.set_cons_zero, List.set_cons_succ, i64_w, i32_w]
     rfl
    refine pure_ (i := 4) (N := some 35) (v := ?_) (a' := ?_) #[true, true, true, true, true, true, true, true, false, false, false] rfl rfl (any_of HT_.out (by kernel_rfl)) (fun _ _ _ h => h) (Or.inl ⟨by rfl, ?_⟩) ?_ ?_
    rotate_left
    ·intro w'
     go_simp
     with_reducible rfl
    rotate_left
    ·simp only [Act.put, List.setIfInBounds_toArray, List.set_cons_zero, List.set_cons_succ, i64_w, i32_w]
     rfl
    refine take_ (i := 8) (N := some 39) (v := ?_) (a' := ?_) #[true, true, true, true, true, true, true, true, true, false, false] rfl rfl (take_ofW HT_.out HW_.out (by kernel_rfl)) (fun _ _ _ h => h) (Or.inl ⟨by rfl, ?_⟩) hHeld ?_ ?_
    rotate_left
    ·rintro w' ⟨s0, s1, s2, s3, s4, s5⟩
     go_simp
     with_reducible rfl
    rotate_left
    ·simp only [Act.put, List.setIfInBounds_toArray, List.set_cons_zero, List.set_cons_succ, i64_w, i32_w]
     rfl
    refine pure_ (i := 9) (N := some 40) (v := ?_) (a' := ?_) #[true, true, true, true, true, true, true, true, true, true, false] rfl rfl (any_of HT_.out (by kernel_rfl)) (fun _ _ _ h => h) (Or.inl ⟨by rfl, ?_⟩) ?_ ?_
    rotate_left
    ·intro w'
     go_simp
     with_reducible rfl
    rotate_left
    ·simp only [Act.put, List.setIfInBounds_toArray, List.set_cons_zero, List.set_cons_succ, i64_w, i32_w]
     rfl
    refine pure_ (i := 10) (N := some 10) (v := ?_) (a' := ?_) #[true, true, true, true, true, true, true, true, true, true, true] rfl rfl (any_of HT_.out (by kernel_rfl)) (fun _ _ _ h => h) (Or.inl ⟨by rfl, ?_⟩) ?_ ?_
    rotate_left
    ·intro w'
     go_simp
     with_reducible rfl
    rotate_left
    ·simp only [Act.put, List.setIfInBounds_toArray, List.set_cons_zero, List.set_cons_succ, i64_w, i32_w]
     rfl
    refine done_ (done_of HT_.out (by kernel_rfl)) ?_
    try go_wp2
    have n0_ := Aside0.mk (Kd.R_drew HO_285000.out)
    have n1_ := Aside0.mk (blk_drew BK278.out)
    have n2_ := Aside0.mk (blk_drew BK279.out)
    have n3_ := Aside0.mk (blk_drew BK284.out)
    have n4_ := Aside0.mk (below_drew1 HB.out)
    clear HO_285000
    clear BK278
    clear BK279
    clear BK284
    clear HB
    have HO_285000 := n0_
    have BK278 := n1_
    have BK279 := n2_
    have BK284 := n3_
    have HB := n4_
    clear n0_ n1_ n2_ n3_ n4_
    have p287 : 0 ≤ (x24_1 : Int) := of_decide_eq_true (by first | (with_reducible assumption) | assumption)
    have q287 : x24_1 < (x285000_1.length : Int) := of_decide_eq_true (by first | (with_reducible assumption) | assumption)
    obtain ⟨ad287, e287, hx287_0, hx287_1, hx287_2⟩ := at_T71 (Kd.R_reads' HO_285000.out).2.2 x24_1 p287 q287
    obtain rfl : (⟨go21, 0, none⟩ : Addr) = ad287 := (by injection e287)
    (first | simp only [add_plain] at hx287_0 | simp only [add_at] at hx287_0 | simp only [Addr.add, Nat.zero_add] at hx287_0 | skip)
    (first | simp only [add_plain] at hx287_1 | simp only [add_at] at hx287_1 | simp only [Addr.add, Nat.zero_add] at hx287_1 | skip)
    (first | simp only [add_plain] at hx287_2 | simp only [add_at] at hx287_2 | simp only [Addr.add, Nat.zero_add] at hx287_2 | skip)
    replace p287 := eq_true p287
    replace q287 := eq_true q287
    have p288 : 0 ≤ (x24_1 : Int) := of_decide_eq_true (by first | (with_reducible assumption) | assumption)
    have q288 : x24_1 < (x285000_1.length : Int) := of_decide_eq_true (by first | (with_reducible assumption) | assumption)
    obtain ⟨ad288, e288, hx288_0, hx288_1, hx288_2⟩ := at_T71 (Kd.R_reads' HO_285000.out).2.2 x24_1 p288 q288
    obtain rfl : (⟨go21, 0, none⟩ : Addr) = ad288 := (by injection e288)
    (first | simp only [add_plain] at hx288_0 | simp only [add_at] at hx288_0 | simp only [Addr.add, Nat.zero_add] at hx288_0 | skip)
    (first | simp only [add_plain] at hx288_1 | simp only [add_at] at hx288_1 | simp only [Addr.add, Nat.zero_add] at hx288_1 | skip)
    (first | simp only [add_plain] at hx288_2 | simp only [add_at] at hx288_2 | simp only [Addr.add, Nat.zero_add] at hx288_2 | skip)
    replace p288 := eq_true p288
    replace q288 := eq_true q288
    have p24 : 0 ≤ (x24_1 : Int) := of_decide_eq_true (by first | (with_reducible assumption) | assumption)
    have q24 : (x24_1 : Int) < ((x285000_1.length : Int) : Int) := of_decide_eq_true (by first | (with_reducible assumption) | assumption)
    obtain ⟨ce24, hcl24, hM24, hcc24, hfr24⟩ := Kd.R_elem HO_285000.out z71 (x24_1 : Int) p24 q24
    obtain rfl := k71_openM hM24
    have hx24_0 : World.cell? _ ⟨go21, (x24_1 : Int).toNat * 3, none⟩ = some (.string ((rd_T71 x285000_1 x24_1).f0)) := hcc24 0 _ rfl
    have hx24_1 : World.cell? _ ⟨go21, (x24_1 : Int).toNat * 3 + 1, none⟩ = some (.string ((rd_T71 x285000_1 x24_1).f1)) := hcc24 1 _ rfl
    have hx24_2 : World.cell? _ ⟨go21, (x24_1 : Int).toNat * 3 + 2, none⟩ = some (.int .i64 ((rd_T71 x285000_1 x24_1).f2)) := hcc24 2 _ rfl
    have hf24_0 : World.frozen? _ ⟨go21, (x24_1 : Int).toNat * 3, none⟩ = false := hfr24 0
    have hf24_1 : World.frozen? _ ⟨go21, (x24_1 : Int).toNat * 3 + 1, none⟩ = false := hfr24 1
    have hf24_2 : World.frozen? _ ⟨go21, (x24_1 : Int).toNat * 3 + 2, none⟩ = false := hfr24 2
    clear hcl24 hcc24 hfr24 hM24
    replace p24 := eq_true p24
    replace q24 := eq_true q24
    obtain ⟨ce39, hcl39, hM39, hcc39, hfr39⟩ := Kd.R_elem HO_285000.out z71 (x24_1 : Int) (of_decide_eq_true (by first | (with_reducible assumption) | assumption)) (by have h_ : (x24_1 : Int) < ((x285000_1.length : Int) : Int) := of_decide_eq_true (by first | (with_reducible assumption) | assumption); first | exact h_ | (have e_ := (Kd.R_reads' HO_285000.out).1; omega) | simpa using h_)
    obtain rfl := k71_openM hM39
    have HP39 := (Kd.R_seg HO_285000.out (x24_1 : Int) (of_decide_eq_true (by first | (with_reducible assumption) | assumption)) (by have h_ : (x24_1 : Int) < ((x285000_1.length : Int) : Int) := of_decide_eq_true (by first | (with_reducible assumption) | assumption); first | exact h_ | (have e_ := (Kd.R_reads' HO_285000.out).1; omega) | simpa using h_) (seg := [.string (((rd_T71 x285000_1 x24_1).f1).extract 0 (((rd_T71 x285000_1 x24_1).f2) : Int).toNat)]) (j := 1) hcl39 hcc39 (show 2 ≤ 3 from by decide) (x' := (⟨(rd_T71 x285000_1 x24_1).f0, ((rd_T71 x285000_1 x24_1).f1).extract 0 (((rd_T71 x285000_1 x24_1).f2) : Int).toNat, (rd_T71 x285000_1 x24_1).f2⟩ : S71)) (k71_mkM _ _ _ (⟨(rd_T71 x285000_1 x24_1).f0, ((rd_T71 x285000_1 x24_1).f1).extract 0 (((rd_T71 x285000_1 x24_1).f2) : Int).toNat, (rd_T71 x285000_1 x24_1).f2⟩ : S71) ) (fun _ hk => hk)).1
    rw [← Ny289.out] at HP39
    have HQ39 := Aside0.mk HP39
    clear hcl39 hcc39 hfr39 hM39 HP39
    refine start_ (n := 13) (S := fun w' => w'.cell? ⟨go21, (x24_1).toNat * 3, none⟩ = some (.string ((rd_T71 x285000_1 x24_1).f0)) ∧ w'.cell? ⟨go21, (x24_1).toNat * 3 + 1, none⟩ = some (.string ((rd_T71 x285000_1 x24_1).f1)) ∧ w'.cell? ⟨go21, (x24_1).toNat * 3 + 2, none⟩ = some (.int .i64 ((rd_T71 x285000_1 x24_1).f2)) ∧ w'.cell? ⟨go21, (x24_1).toNat * 3, none⟩ = some (.string ((rd_T71 x285000_1 x24_1).f0)) ∧ w'.cell? ⟨go21, (x24_1).toNat * 3 + 1, none⟩ = some (.string ((rd_T71 x285000_1 x24_1).f1)) ∧ w'.cell? ⟨go21, (x24_1).toNat * 3 + 2, none⟩ = some (.int .i64 ((rd_T71 x285000_1 x24_1).f2))) (ds := [12]) #[false, false, false, false, false, false, false, false, false, false, false, false, false] (by kernel_rfl) rfl rfl ⟨hx287_0, hx287_1, hx287_2, hx288_0, hx288_1, hx288_2⟩ (fun hHeld => ?_); refine with_tabW disk_Crash.tab10 disk_Crash.bits10 (fun HT_ HW_ => ?_)
    generalize w37.drew = w38 at HO_285000 BK278 BK279 BK284 HB HQ39 hf24_0 hf24_1 hf24_2 hx24_0 hx24_1 hx24_2 hx287_0 hx287_1 hx287_2 hx288_0 hx288_1 hx288_2 hHeld ⊢
    refine pure_ (i := 0) (N := some 41) (v := ?_) (a' := ?_) #[true, false, false, false, false, false, false, false, false, false, false, false, false] rfl rfl (any_of HT_.out (by kernel_rfl)) (fun _ _ _ h => h) (Or.inl ⟨by rfl, ?_⟩) ?_ ?_
    rotate_left
    ·intro w'
     go_simp
     with_reducible rfl
    rotate_left
    ·simp only [Act.put, List.setIfInBounds_toArray, List.set_cons_zero, List.set_cons_succ, i64_w, i32_w]
     rfl
    refine pure_ (i := 1) (N := some 42) (v := ?_) (a' := ?_) #[true, true, false, false, false, false, false, false, false, false, false, false, false] rfl rfl (any_of HT_.out (by kernel_rfl)) (fun _ _ _ h => h) (Or.inl ⟨by rfl, ?_⟩) ?_ ?_
    rotate_left
    ·intro w'
     go_simp
     with_reducible rfl
    rotate_left
    ·simp only [Act.put, List.setIfInBounds_toArray, List.set_cons_zero, List.set_cons_succ, i64_w, i32_w]
     rfl
    refine pure_ (i := 2) (N := some 43) (v := ?_) (a' := ?_) #[true, true, true, false, false, false, false, false, false, false, false, false, false] rfl rfl (any_of HT_.out (by kernel_rfl)) (fun _ _ _ h => h) (Or.inl ⟨by rfl, ?_⟩) ?_ ?_
    rotate_left
    ·intro w'
     go_simp
     with_reducible rfl
    rotate_left
    ·simp only [Act.put, List.setIfInBounds_toArray, List.set_cons_zero, List.set_cons_succ, i64_w, i32_w]
     rfl
    refine pure_ (i := 3) (N := some 44) (v := ?_) (a' := ?_) #[true, true, true, true, false, false, false, false, false, false, false, false, false] rfl rfl (any_of HT_.out (by kernel_rfl)) (fun _ _ _ h => h) (Or.inl ⟨by rfl, ?_⟩) ?_ ?_
    rotate_left
    ·intro w'
     go_simp
     with_reducible rfl
    rotate_left
    ·simp only [Act.put, List.setIfInBounds_toArray, List.set_cons_zero, List.set_cons_succ, i64_w, i32_w]
     rfl
    refine pure_ (i := 5) (N := some 46) (v := ?_) (a' := ?_) #[true, true, true, true, false, true, false, false, false, false, false, false, false] rfl rfl (any_of HT_.out (by kernel_rfl)) (fun _ _ _ h => h) (Or.inl ⟨by rfl, ?_⟩) ?_ ?_
    rotate_left
    ·intro w'
     go_simp
     with_reducible rfl
    rotate_left
    ·simp only [Act.put, List.setIfInBounds_toArray, List.set_cons_zero, List.set_cons_succ, i64_w, i32_w]
     rfl
    refine pure_ (i := 6) (N := some 47) (v := ?_) (a' := ?_) #[true, true, true, true, false, true, true, false, false, false, false, false, false] rfl rfl (any_of HT_.out (by kernel_rfl)) (fun _ _ _ h => h) (Or.inl ⟨by rfl, ?_⟩) ?_ ?_
    rotate_left
    ·intro w'
     go_simp
     with_reducible rfl
    rotate_left
    ·simp only [Act.put, List.setIfInBounds_toArray, List.set_cons_zero, List.set_cons_succ, i64_w, i32_w]
     rfl
    refine pure_ (i := 7) (N := some 48) (v := ?_) (a' := ?_) #[true, true, true, true, false, true, true, true, false, false, false, false, false] rfl rfl (any_of HT_.out (by kernel_rfl)) (fun _ _ _ h => h) (Or.inl ⟨by rfl, ?_⟩) ?_ ?_
    rotate_left
    ·intro w'
     go_simp
     with_reducible rfl
    rotate_left
    ·simp only [Act.put, List.setIfInBounds_toArray, List.set_cons_zero, List.set_cons_succ, i64_w, i32_w]
     rfl
    refine take_ (i := 4) (N := some 45) (v := ?_) (a' := ?_) #[true, true, true, true, true, true, true, true, false, false, false, false, false] rfl rfl (take_ofW HT_.out HW_.out (by kernel_rfl)) (fun _ _ _ h => h) (Or.inl ⟨by rfl, ?_⟩) hHeld ?_ ?_
    rotate_left
    ·rintro w' ⟨s0, s1, s2, s3, s4, s5⟩
     go_simp
     with_reducible rfl
    rotate_left
    ·simp only [Act.put, List.setIfInBounds_toArray, List.set_cons_zero, List.set_cons_succ, i64_w, i32_w]
     rfl
    refine take_ (i := 8) (N := some 49) (v := ?_) (a' := ?_) #[true, true, true, true, true, true, true, true, true, false, false, false, false] rfl rfl (take_ofW HT_.out HW_.out (by kernel_rfl)) (fun _ _ _ h => h) (Or.inl ⟨by rfl, ?_⟩) hHeld ?_ ?_
    rotate_left
    ·rintro w' ⟨s0, s1, s2, s3, s4, s5⟩
     go_simp
     with_reducible rfl
    rotate_left
    ·simp only [Act.put, List.setIfInBounds_toArray, List.set_cons_zero, List.set_cons_succ, i64_w, i32_w]
     rfl
    refine pure_ (i := 9) (N := some 50) (v := ?_) (a' := ?_) #[true, true, true, true, true, true, true, true, true, true, false, false, false] rfl rfl (any_of HT_.out (by kernel_rfl)) (fun _ _ _ h => h) (Or.inl ⟨by rfl, ?_⟩) ?_ ?_
    rotate_left
    ·intro w'
     go_simp
     with_reducible rfl
    rotate_left
    ·simp only [Act.put, List.setIfInBounds_toArray, List.set_cons_zero, List.set_cons_succ, i64_w, i32_w]
     rfl
    refine pure_ (i := 10) (N := some 51) (v := ?_) (a' := ?_) #[true, true, true, true, true, true, true, true, true, true, true, false, false] rfl rfl (any_of HT_.out (by kernel_rfl)) (fun _ _ _ h => h) (Or.inl ⟨by rfl, ?_⟩) ?_ ?_
    rotate_left
    ·intro w'
     go_simp
     with_reducible rfl
    rotate_left
    ·simp only [Act.put, List.setIfInBounds_toArray, List.set_cons_zero, List.set_cons_succ, i64_w, i32_w]
     rfl
    refine pure_ (i := 11) (N := some 52) (v := ?_) (a' := ?_) #[true, true, true, true, true, true, true, true, true, true, true, true, false] rfl rfl (any_of HT_.out (by kernel_rfl)) (fun _ _ _ h => h) (Or.inl ⟨by rfl, ?_⟩) ?_ ?_
    rotate_left
    ·intro w'
     go_simp
     with_reducible rfl
    rotate_left
    ·simp only [Act.put, List.setIfInBounds_toArray, List.set_cons_zero, List.set_cons_succ, i64_w, i32_w]
     rfl
    refine last_ (i := 12) (N := none) #[true, true, true, true, true, true, true, true, true, true, true, true, true] rfl rfl (one_of HT_.out (by kernel_rfl)) (by decide) (fun K hK => ?_)
    refine skip_ (w1 := ?_) (by rfl) rfl ?_ ?_
    rotate_left
    ·go_simp
     rfl
    refine hK.out _ _ ?_
    clear hK K
    refine done_ (done_of HT_.out (by kernel_rfl)) ?_
    have p290 : 0 ≤ (x24_1 : Int) := of_decide_eq_true (by first | (with_reducible assumption) | assumption)
    have q290 : x24_1 < (l1.length : Int) := of_decide_eq_true (by first | (with_reducible assumption) | assumption)
    obtain ⟨ad290, e290, hx290_0⟩ := Kd.at_int HR1.out x24_1 p290 q290
    cases e290
    have hn290_0 : ad290.block ≠ go21 := Nat.ne_of_lt (Nat.lt_of_lt_of_le (by have := World.block_lt_of_cell? _ _ hx290_0; first | rwa [add_block] at this | exact this) GB21.out)
    replace hx290_0 := (HB.out.cell (World.block_lt_of_cell? w _ hx290_0)).trans hx290_0
    replace hx290_0 := (cell_far (p := ⟨go21, (x24_1 : Int).toNat * 3 + 1, none⟩) (by first | (rw [add_block]; exact hn290_0) | (show (Addr.add _ _).block ≠ _; rw [add_block]; exact hn290_0) | exact hn290_0) (.string (((rd_T71 x285000_1 x24_1).f1).extract 0 (((rd_T71 x285000_1 x24_1).f2) : Int).toNat))).trans hx290_0
    clear hn290_0
    replace p290 := eq_true p290
    replace q290 := eq_true q290
    try go_wp2
    go_roundg k1
    case measure => have := HK1.out; omega
    case rel => exact ⟨(wrap64 (x24_1 + 1)), (y289), (.slice (some ⟨go21, 0, none⟩) x285000_1.length co21), (by first | rfl | (simp; done) | (simp [*]; done)), H', ⟨by have := HK1.out; omega⟩, ⟨by (with_reducible repeat (first | apply Kd.R_alloc | apply Kd.R_drewN | apply Kd.R_drew)); exact HQ39.out⟩, ⟨by (with_reducible repeat (first | refine blk_drewN ?_ _ | refine blk_drew ?_ | refine blk_alloc ?_ _)); refine blk_far ?_ (by have h_ := Kd.R_ne HO_285000.out BK278.out (by decide); intro e_; exact h_ (by rw [e_]; rfl)) _; (with_reducible repeat (first | refine blk_drewN ?_ _ | refine blk_drew ?_ | refine blk_alloc ?_ _)); exact BK278.out⟩, ⟨by (with_reducible repeat (first | refine blk_drewN ?_ _ | refine blk_drew ?_ | refine blk_alloc ?_ _)); refine blk_far ?_ (by have h_ := Kd.R_ne HO_285000.out BK279.out (by decide); intro e_; exact h_ (by rw [e_]; rfl)) _; (with_reducible repeat (first | refine blk_drewN ?_ _ | refine blk_drew ?_ | refine blk_alloc ?_ _)); exact BK279.out⟩, ⟨by (with_reducible repeat (first | refine blk_drewN ?_ _ | refine blk_drew ?_ | refine blk_alloc ?_ _)); refine blk_far ?_ (by have h_ := Kd.R_ne HO_285000.out BK284.out (by decide); intro e_; exact h_ (by rw [e_]; rfl)) _; (with_reducible repeat (first | refine blk_drewN ?_ _ | refine blk_drew ?_ | refine blk_alloc ?_ _)); exact BK284.out⟩, ⟨bl_4 HB GB21 GE278 GE279 GE284⟩⟩
   rw [if_neg c33] at H
   have c33b0 : decide ((rd l1 x24_1) ≤ 0) = false := decide_eq_false c33
   clear c33
   obtain ⟨ji40, hji40⟩ : ∃ j_ : Int, (mn (rd l1 x24_1) (wrap64 ((((rd_T71 x285000_1 x24_1).f1).size : Int) - ((rd_T71 x285000_1 x24_1).f2)))) = j_ := ⟨_, rfl⟩
   replace H : ((some (y289.set (x24_1 : Int).toNat (⟨(rd_T71 y289 x24_1).f0, (rd_T71 y289 x24_1).f1, wrap64 (((rd_T71 y289 x24_1).f2) + (ji40))⟩ : S71) : List (S71))).bind fun y293 => (if x24_1 < (l0_0.length : Int) then (if 0 ≤ ((rd_T71 y293 x24_1).f2) then (if ((rd_T71 y293 x24_1).f2) ≤ (((rd_T71 l0_0 x24_1).f1).size : Int) then (disk_Crash.l0 k1 l1 (t281.length : Int) (wrap64 (x24_1 + 1)) l0_0 a0_1 a0_2 (y293.set (x24_1 : Int).toNat (⟨(rd_T71 y293 x24_1).f0, ((rd_T71 l0_0 x24_1).f1).extract 0 (((rd_T71 y293 x24_1).f2) : Int).toNat, (rd_T71 y293 x24_1).f2⟩ : S71)) false (-1)) else (none)) else (none)) else (none))) = some (r1, r2, r3, r4) := by first | (rw [hji40] at H; exact H) | (simp only [hji40] at H ⊢; exact H)
   have hji40_ : (if (wrap64 ((((rd_T71 x285000_1 x24_1).f1).size : Int) - ((rd_T71 x285000_1 x24_1).f2))) < (rd l1 x24_1) then (wrap64 ((((rd_T71 x285000_1 x24_1).f1).size : Int) - ((rd_T71 x285000_1 x24_1).f2))) else (rd l1 x24_1)) = ji40 := hji40
   obtain ⟨y293, hy293⟩ : ∃ y_ : List (S71), y_ = (y289.set (x24_1 : Int).toNat (⟨(rd_T71 y289 x24_1).f0, (rd_T71 y289 x24_1).f1, wrap64 (((rd_T71 y289 x24_1).f2) + (ji40))⟩ : S71)) := ⟨_, rfl⟩
   replace H : (if x24_1 < (l0_0.length : Int) then (if 0 ≤ ((rd_T71 y293 x24_1).f2) then (if ((rd_T71 y293 x24_1).f2) ≤ (((rd_T71 l0_0 x24_1).f1).size : Int) then (disk_Crash.l0 k1 l1 (t281.length : Int) (wrap64 (x24_1 + 1)) l0_0 a0_1 a0_2 (y293.set (x24_1 : Int).toNat (⟨(rd_T71 y293 x24_1).f0, ((rd_T71 l0_0 x24_1).f1).extract 0 (((rd_T71 y293 x24_1).f2) : Int).toNat, (rd_T71 y293 x24_1).f2⟩ : S71)) false (-1)) else (none)) else (none)) else (none)) = some (r1, r2, r3, r4) := by first | (rw [hy293]; with_reducible exact H) | (have H2_ := (Option.bind_some _ _).symm.trans H; rw [hy293]; with_reducible exact H2_) | (have H2_ := (Option.bind_some _ _).symm.trans H; with_reducible exact H2_) | with_reducible exact H | (rw [hy293]; exact H) | exact H
   have Ny293 := Aside0.mk hy293
   clear hy293
   by_cases c42 : x24_1 < (l0_0.length : Int)
   rotate_left
   ·rw [if_neg c42] at H
    exact absurd H (by simp)
   rw [if_pos c42] at H
   have c42b0 : decide (x24_1 < (l0_0.length : Int)) = true := decide_eq_true c42
   clear c42
   by_cases c43 : 0 ≤ ((rd_T71 y293 x24_1).f2)
   rotate_left
   ·rw [if_neg c43] at H
    exact absurd H (by simp)
   rw [if_pos c43] at H
   have c43b0 := eq_true c43
   have c43b1 : decide (0 ≤ ((rd_T71 y293 x24_1).f2)) = true := decide_eq_true c43
   clear c43
   by_cases c44 : ((rd_T71 y293 x24_1).f2) ≤ (((rd_T71 l0_0 x24_1).f1).size : Int)
   rotate_left
   ·rw [if_neg c44] at H
    exact absurd H (by simp)
   rw [if_pos c44] at H
   have c44b0 := eq_true c44
   have c44b1 : decide (((rd_T71 y293 x24_1).f2) ≤ (((rd_T71 l0_0 x24_1).f1).size : Int)) = true := decide_eq_true c44
   clear c44
   obtain ⟨y296, hy296⟩ : ∃ y_ : List (S71), y_ = (y293.set (x24_1 : Int).toNat (⟨(rd_T71 y293 x24_1).f0, ((rd_T71 l0_0 x24_1).f1).extract 0 (((rd_T71 y293 x24_1).f2) : Int).toNat, (rd_T71 y293 x24_1).f2⟩ : S71)) := ⟨_, rfl⟩
   replace H : (disk_Crash.l0 k1 l1 (t281.length : Int) (wrap64 (x24_1 + 1)) l0_0 a0_1 a0_2 y296 false (-1)) = some (r1, r2, r3, r4) := by first | (rw [hy296]; with_reducible exact H) | (have H2_ := (Option.bind_some _ _).symm.trans H; rw [hy296]; with_reducible exact H2_) | (have H2_ := (Option.bind_some _ _).symm.trans H; with_reducible exact H2_) | with_reducible exact H | (rw [hy296]; exact H) | exact H
   have Ny296 := Aside0.mk hy296
   clear hy296
   have H' := Aside0.mk H
   clear H
   have hnb46 := NB284_278.out
   have hnc46 := NB278_284.out
   have hnb47 := NB284_279.out
   have hnc47 := NB279_284.out
   obtain ⟨hcz48_0, hcz48_1, hcz48_2, hfz48_0, hfz48_1, hfz48_2⟩ := c3_ BK284
   have p21 : 0 ≤ (x24_1 : Int) := of_decide_eq_true (by first | (with_reducible assumption) | assumption)
   have q21 : (x24_1 : Int) < ((x285000_1.length : Int) : Int) := of_decide_eq_true (by first | (with_reducible assumption) | assumption)
   obtain ⟨go21, co21, eo21, gb21, gl21, cl21, HG21⟩ := Kd.R_form HO_285000.out (by omega)
   (first | cases eo21 | (injection eo21 with ea_ en_ ec_; (first | subst ea_ | (injection ea_ with ea_; subst ea_)); subst ec_; clear en_))
   have GB21 := Aside0.mk gb21
   have GG21 := Aside0.mk HG21
   clear gb21 gl21 HG21
   obtain ⟨ce21, hcl21, hM21, hcc21, hfr21⟩ := Kd.R_elem HO_285000.out z71 (x24_1 : Int) p21 q21
   obtain rfl := k71_openM hM21
   have hx21_0 : wr.cell? ⟨go21, (x24_1 : Int).toNat * 3, none⟩ = some (.string ((rd_T71 x285000_1 x24_1).f0)) := hcc21 0 _ rfl
   have hx21_1 : wr.cell? ⟨go21, (x24_1 : Int).toNat * 3 + 1, none⟩ = some (.string ((rd_T71 x285000_1 x24_1).f1)) := hcc21 1 _ rfl
   have hx21_2 : wr.cell? ⟨go21, (x24_1 : Int).toNat * 3 + 2, none⟩ = some (.int .i64 ((rd_T71 x285000_1 x24_1).f2)) := hcc21 2 _ rfl
   have hf21_0 : wr.frozen? ⟨go21, (x24_1 : Int).toNat * 3, none⟩ = false := hfr21 0
   have hf21_1 : wr.frozen? ⟨go21, (x24_1 : Int).toNat * 3 + 1, none⟩ = false := hfr21 1
   have hf21_2 : wr.frozen? ⟨go21, (x24_1 : Int).toNat * 3 + 2, none⟩ = false := hfr21 2
   clear hcl21 hcc21 hfr21 hM21
   replace p21 := eq_true p21
   replace q21 := eq_true q21
   try go_wp2
   have n0_ := Aside0.mk (Kd.R_drew HO_285000.out)
   have n1_ := Aside0.mk (blk_drew BK278.out)
   have n2_ := Aside0.mk (blk_drew BK279.out)
   have n3_ := Aside0.mk (blk_drew BK284.out)
   have n4_ := Aside0.mk (below_drew1 HB.out)
   clear HO_285000
   clear BK278
   clear BK279
   clear BK284
   clear HB
   have HO_285000 := n0_
   have BK278 := n1_
   have BK279 := n2_
   have BK284 := n3_
   have HB := n4_
   clear n0_ n1_ n2_ n3_ n4_
   have p285 : 0 ≤ (x24_1 : Int) := of_decide_eq_true (by first | (with_reducible assumption) | assumption)
   have q285 : x24_1 < (x285000_1.length : Int) := of_decide_eq_true (by first | (with_reducible assumption) | assumption)
   obtain ⟨ad285, e285, hx285_0, hx285_1, hx285_2⟩ := at_T71 (Kd.R_reads' HO_285000.out).2.2 x24_1 p285 q285
   obtain rfl : (⟨go21, 0, none⟩ : Addr) = ad285 := (by injection e285)
   (first | simp only [add_plain] at hx285_0 | simp only [add_at] at hx285_0 | simp only [Addr.add, Nat.zero_add] at hx285_0 | skip)
   (first | simp only [add_plain] at hx285_1 | simp only [add_at] at hx285_1 | simp only [Addr.add, Nat.zero_add] at hx285_1 | skip)
   (first | simp only [add_plain] at hx285_2 | simp only [add_at] at hx285_2 | simp only [Addr.add, Nat.zero_add] at hx285_2 | skip)
   replace p285 := eq_true p285
   replace q285 := eq_true q285
   have p286 : 0 ≤ (x24_1 : Int) := of_decide_eq_true (by first | (with_reducible assumption) | assumption)
   have q286 : x24_1 < (x285000_1.length : Int) := of_decide_eq_true (by first | (with_reducible assumption) | assumption)
   obtain ⟨ad286, e286, hx286_0, hx286_1, hx286_2⟩ := at_T71 (Kd.R_reads' HO_285000.out).2.2 x24_1 p286 q286
   obtain rfl : (⟨go21, 0, none⟩ : Addr) = ad286 := (by injection e286)
   (first | simp only [add_plain] at hx286_0 | simp only [add_at] at hx286_0 | simp only [Addr.add, Nat.zero_add] at hx286_0 | skip)
   (first | simp only [add_plain] at hx286_1 | simp only [add_at] at hx286_1 | simp only [Addr.add, Nat.zero_add] at hx286_1 | skip)
   (first | simp only [add_plain] at hx286_2 | simp only [add_at] at hx286_2 | simp only [Addr.add, Nat.zero_add] at hx286_2 | skip)
   replace p286 := eq_true p286
   replace q286 := eq_true q286
   refine start_ (n := 11) (S := fun w' => w'.cell? ⟨go21, (x24_1).toNat * 3, none⟩ = some (.string ((rd_T71 x285000_1 x24_1).f0)) ∧ w'.cell? ⟨go21, (x24_1).toNat * 3 + 1, none⟩ = some (.string ((rd_T71 x285000_1 x24_1).f1)) ∧ w'.cell? ⟨go21, (x24_1).toNat * 3 + 2, none⟩ = some (.int .i64 ((rd_T71 x285000_1 x24_1).f2)) ∧ w'.cell? ⟨go21, (x24_1).toNat * 3, none⟩ = some (.string ((rd_T71 x285000_1 x24_1).f0)) ∧ w'.cell? ⟨go21, (x24_1).toNat * 3 + 1, none⟩ = some (.string ((rd_T71 x285000_1 x24_1).f1)) ∧ w'.cell? ⟨go21, (x24_1).toNat * 3 + 2, none⟩ = some (.int .i64 ((rd_T71 x285000_1 x24_1).f2))) (ds := []) #[false, false, false, false, false, false, false, false, false, false, false] (by kernel_rfl) rfl rfl ⟨hx285_0, hx285_1, hx285_2, hx286_0, hx286_1, hx286_2⟩ (fun hHeld => ?_); refine with_tabW disk_Crash.tab9 disk_Crash.bits9 (fun HT_ HW_ => ?_)
   generalize wr.drew = w49 at HO_285000 BK278 BK279 BK284 HB hx285_0 hx285_1 hx285_2 hx286_0 hx286_1 hx286_2 hHeld ⊢
   refine pure_ (i := 0) (N := some 31) (v := ?_) (a' := ?_) #[true, false, false, false, false, false, false, false, false, false, false] rfl rfl (any_of HT_.out (by kernel_rfl)) (fun _ _ _ h => h) (Or.inl ⟨by rfl, ?_⟩) ?_ ?_
   rotate_left
   ·intro w'
    go_simp
    with_reducible rfl
   rotate_left
   ·simp only [Act.put, List.setIfInBounds_toArray, List.set_cons_zero, List.set_cons_succ, i64_w, i32_w]
    rfl
   refine pure_ (i := 1) (N := some 32) (v := ?_) (a' := ?_) #[true, true, false, false, false, false, false, false, false, false, false] rfl rfl (any_of HT_.out (by kernel_rfl)) (fun _ _ _ h => h) (Or.inl ⟨by rfl, ?_⟩) ?_ ?_
   rotate_left
   ·intro w'
    go_simp
    with_reducible rfl
   rotate_left
   ·simp only [Act.put, List.setIfInBounds_toArray, List.set_cons_zero, List.set_cons_succ, i64_w, i32_w]
    rfl
   refine pure_ (i := 2) (N := some 33) (v := ?_) (a' := ?_) #[true, true, true, false, false, false, false, false, false, false, false] rfl rfl (any_of HT_.out (by kernel_rfl)) (fun _ _ _ h => h) (Or.inl ⟨by rfl, ?_⟩) ?_ ?_
   rotate_left
   ·intro w'
    go_simp
    with_reducible rfl
   rotate_left
   ·simp only [Act.put, List.setIfInBounds_toArray, List.set_cons_zero, List.set_cons_succ, i64_w, i32_w]
    rfl
   refine pure_ (i := 5) (N := some 36) (v := ?_) (a' := ?_) #[true, true, true, false, false, true, false, false, false, false, false] rfl rfl (any_of HT_.out (by kernel_rfl)) (fun _ _ _ h => h) (Or.inl ⟨by rfl, ?_⟩) ?_ ?_
   rotate_left
   ·intro w'
    go_simp
    with_reducible rfl
   rotate_left
   ·simp only [Act.put, List.setIfInBounds_toArray, List.set_cons_zero, List.set_cons_succ, i64_w, i32_w]
    rfl
   refine pure_ (i := 6) (N := some 37) (v := ?_) (a' := ?_) #[true, true, true, false, false, true, true, false, false, false, false] rfl rfl (any_of HT_.out (by kernel_rfl)) (fun _ _ _ h => h) (Or.inl ⟨by rfl, ?_⟩) ?_ ?_
   rotate_left
   ·intro w'
    go_simp
    with_reducible rfl
   rotate_left
   ·simp only [Act.put, List.setIfInBounds_toArray, List.set_cons_zero, List.set_cons_succ, i64_w, i32_w]
    rfl
   refine pure_ (i := 7) (N := some 38) (v := ?_) (a' := ?_) #[true, true, true, false, false, true, true, true, false, false, false] rfl rfl (any_of HT_.out (by kernel_rfl)) (fun _ _ _ h => h) (Or.inl ⟨by rfl, ?_⟩) ?_ ?_
   rotate_left
   ·intro w'
    go_simp
    with_reducible rfl
   rotate_left
   ·simp only [Act.put, List.setIfInBounds_toArray, List.set_cons_zero, List.set_cons_succ, i64_w, i32_w]
    rfl
   refine take_ (i := 3) (N := some 34) (v := ?_) (a' := ?_) #[true, true, true, true, false, true, true, true, false, false, false] rfl rfl (take_ofW HT_.out HW_.out (by kernel_rfl)) (fun _ _ _ h => h) (Or.inl ⟨by rfl, ?_⟩) hHeld ?_ ?_
   rotate_left
   ·rintro w' ⟨s0, s1, s2, s3, s4, s5⟩
    go_simp
    with_reducible rfl
   rotate_left
   ·simp only [Act.put, List.setIfInBounds_toArray, List.set_cons_zero, List.set_cons_succ, i64_w, i32_w]
    rfl
   refine pure_ (i := 4) (N := some 35) (v := ?_) (a' := ?_) #[true, true, true, true, true, true, true, true, false, false, false] rfl rfl (any_of HT_.out (by kernel_rfl)) (fun _ _ _ h => h) (Or.inl ⟨by rfl, ?_⟩) ?_ ?_
   rotate_left
   ·intro w'
    go_simp
    with_reducible rfl
   rotate_left
   ·simp only [Act.put, List.setIfInBounds_toArray, List.set_cons_zero, List.set_cons_succ, i64_w, i32_w]
    rfl
   refine take_ (i := 8) (N := some 39) (v := ?_) (a' := ?_) #[true, true, true, true, true, true, true, true, true, false, false] rfl rfl (take_ofW HT_.out HW_.out (by kernel_rfl)) (fun _ _ _ h => h) (Or.inl ⟨by rfl, ?_⟩) hHeld ?_ ?_
   rotate_left
   ·rintro w' ⟨s0, s1, s2, s3, s4, s5⟩
    go_simp
    with_reducible rfl
   rotate_left
   ·simp only [Act.put, List.setIfInBounds_toArray, List.set_cons_zero, List.set_cons_succ, i64_w, i32_w]
    rfl
   refine pure_ (i := 9) (N := some 40) (v := ?_) (a' := ?_) #[true, true, true, true, true, true, true, true, true, true, false] rfl rfl (any_of HT_.out (by kernel_rfl)) (fun _ _ _ h => h) (Or.inl ⟨by rfl, ?_⟩) ?_ ?_
   rotate_left
   ·intro w'
    go_simp
    with_reducible rfl
   rotate_left
   ·simp only [Act.put, List.setIfInBounds_toArray, List.set_cons_zero, List.set_cons_succ, i64_w, i32_w]
    rfl
   refine pure_ (i := 10) (N := some 10) (v := ?_) (a' := ?_) #[true, true, true, true, true, true, true, true, true, true, true] rfl rfl (any_of HT_.out (by kernel_rfl)) (fun _ _ _ h => h) (Or.inl ⟨by rfl, ?_⟩) ?_ ?_
   rotate_left
   ·intro w'
    go_simp
    with_reducible rfl
   rotate_left
   ·simp only [Act.put, List.setIfInBounds_toArray, List.set_cons_zero, List.set_cons_succ, i64_w, i32_w]
    rfl
   refine done_ (done_of HT_.out (by kernel_rfl)) ?_
   try go_wp2
   have n0_ := Aside0.mk (Kd.R_drew HO_285000.out)
   have n1_ := Aside0.mk (blk_drew BK278.out)
   have n2_ := Aside0.mk (blk_drew BK279.out)
   have n3_ := Aside0.mk (blk_drew BK284.out)
   have n4_ := Aside0.mk (below_drew1 HB.out)
   clear HO_285000
   clear BK278
   clear BK279
   clear BK284
   clear HB
   have HO_285000 := n0_
   have BK278 := n1_
   have BK279 := n2_
   have BK284 := n3_
   have HB := n4_
   clear n0_ n1_ n2_ n3_ n4_
   have p287 : 0 ≤ (x24_1 : Int) := of_decide_eq_true (by first | (with_reducible assumption) | assumption)
   have q287 : x24_1 < (x285000_1.length : Int) := of_decide_eq_true (by first | (with_reducible assumption) | assumption)
   obtain ⟨ad287, e287, hx287_0, hx287_1, hx287_2⟩ := at_T71 (Kd.R_reads' HO_285000.out).2.2 x24_1 p287 q287
   obtain rfl : (⟨go21, 0, none⟩ : Addr) = ad287 := (by injection e287)
   (first | simp only [add_plain] at hx287_0 | simp only [add_at] at hx287_0 | simp only [Addr.add, Nat.zero_add] at hx287_0 | skip)
   (first | simp only [add_plain] at hx287_1 | simp only [add_at] at hx287_1 | simp only [Addr.add, Nat.zero_add] at hx287_1 | skip)
   (first | simp only [add_plain] at hx287_2 | simp only [add_at] at hx287_2 | simp only [Addr.add, Nat.zero_add] at hx287_2 | skip)
   replace p287 := eq_true p287
   replace q287 := eq_true q287
   have p288 : 0 ≤ (x24_1 : Int) := of_decide_eq_true (by first | (with_reducible assumption) | assumption)
   have q288 : x24_1 < (x285000_1.length : Int) := of_decide_eq_true (by first | (with_reducible assumption) | assumption)
   obtain ⟨ad288, e288, hx288_0, hx288_1, hx288_2⟩ := at_T71 (Kd.R_reads' HO_285000.out).2.2 x24_1 p288 q288
   obtain rfl : (⟨go21, 0, none⟩ : Addr) = ad288 := (by injection e288)
   (first | simp only [add_plain] at hx288_0 | simp only [add_at] at hx288_0 | simp only [Addr.add, Nat.zero_add] at hx288_0 | skip)
   (first | simp only [add_plain] at hx288_1 | simp only [add_at] at hx288_1 | simp only [Addr.add, Nat.zero_add] at hx288_1 | skip)
   (first | simp only [add_plain] at hx288_2 | simp only [add_at] at hx288_2 | simp only [Addr.add, Nat.zero_add] at hx288_2 | skip)
   replace p288 := eq_true p288
   replace q288 := eq_true q288
   have p24 : 0 ≤ (x24_1 : Int) := of_decide_eq_true (by first | (with_reducible assumption) | assumption)
   have q24 : (x24_1 : Int) < ((x285000_1.length : Int) : Int) := of_decide_eq_true (by first | (with_reducible assumption) | assumption)
   obtain ⟨ce24, hcl24, hM24, hcc24, hfr24⟩ := Kd.R_elem HO_285000.out z71 (x24_1 : Int) p24 q24
   obtain rfl := k71_openM hM24
   have hx24_0 : World.cell? _ ⟨go21, (x24_1 : Int).toNat * 3, none⟩ = some (.string ((rd_T71 x285000_1 x24_1).f0)) := hcc24 0 _ rfl
   have hx24_1 : World.cell? _ ⟨go21, (x24_1 : Int).toNat * 3 + 1, none⟩ = some (.string ((rd_T71 x285000_1 x24_1).f1)) := hcc24 1 _ rfl
   have hx24_2 : World.cell? _ ⟨go21, (x24_1 : Int).toNat * 3 + 2, none⟩ = some (.int .i64 ((rd_T71 x285000_1 x24_1).f2)) := hcc24 2 _ rfl
   have hf24_0 : World.frozen? _ ⟨go21, (x24_1 : Int).toNat * 3, none⟩ = false := hfr24 0
   have hf24_1 : World.frozen? _ ⟨go21, (x24_1 : Int).toNat * 3 + 1, none⟩ = false := hfr24 1
   have hf24_2 : World.frozen? _ ⟨go21, (x24_1 : Int).toNat * 3 + 2, none⟩ = false := hfr24 2
   clear hcl24 hcc24 hfr24 hM24
   replace p24 := eq_true p24
   replace q24 := eq_true q24
   obtain ⟨ce51, hcl51, hM51, hcc51, hfr51⟩ := Kd.R_elem HO_285000.out z71 (x24_1 : Int) (of_decide_eq_true (by first | (with_reducible assumption) | assumption)) (by have h_ : (x24_1 : Int) < ((x285000_1.length : Int) : Int) := of_decide_eq_true (by first | (with_reducible assumption) | assumption); first | exact h_ | (have e_ := (Kd.R_reads' HO_285000.out).1; omega) | simpa using h_)
   obtain rfl := k71_openM hM51
   have HP51 := (Kd.R_seg HO_285000.out (x24_1 : Int) (of_decide_eq_true (by first | (with_reducible assumption) | assumption)) (by have h_ : (x24_1 : Int) < ((x285000_1.length : Int) : Int) := of_decide_eq_true (by first | (with_reducible assumption) | assumption); first | exact h_ | (have e_ := (Kd.R_reads' HO_285000.out).1; omega) | simpa using h_) (seg := [.string (((rd_T71 x285000_1 x24_1).f1).extract 0 (((rd_T71 x285000_1 x24_1).f2) : Int).toNat)]) (j := 1) hcl51 hcc51 (show 2 ≤ 3 from by decide) (x' := (⟨(rd_T71 x285000_1 x24_1).f0, ((rd_T71 x285000_1 x24_1).f1).extract 0 (((rd_T71 x285000_1 x24_1).f2) : Int).toNat, (rd_T71 x285000_1 x24_1).f2⟩ : S71)) (k71_mkM _ _ _ (⟨(rd_T71 x285000_1 x24_1).f0, ((rd_T71 x285000_1 x24_1).f1).extract 0 (((rd_T71 x285000_1 x24_1).f2) : Int).toNat, (rd_T71 x285000_1 x24_1).f2⟩ : S71) ) (fun _ hk => hk)).1
   rw [← Ny289.out] at HP51
   have HQ51 := Aside0.mk HP51
   clear hcl51 hcc51 hfr51 hM51 HP51
   refine start_ (n := 13) (S := fun w' => w'.cell? ⟨go21, (x24_1).toNat * 3, none⟩ = some (.string ((rd_T71 x285000_1 x24_1).f0)) ∧ w'.cell? ⟨go21, (x24_1).toNat * 3 + 1, none⟩ = some (.string ((rd_T71 x285000_1 x24_1).f1)) ∧ w'.cell? ⟨go21, (x24_1).toNat * 3 + 2, none⟩ = some (.int .i64 ((rd_T71 x285000_1 x24_1).f2)) ∧ w'.cell? ⟨go21, (x24_1).toNat * 3, none⟩ = some (.string ((rd_T71 x285000_1 x24_1).f0)) ∧ w'.cell? ⟨go21, (x24_1).toNat * 3 + 1, none⟩ = some (.string ((rd_T71 x285000_1 x24_1).f1)) ∧ w'.cell? ⟨go21, (x24_1).toNat * 3 + 2, none⟩ = some (.int .i64 ((rd_T71 x285000_1 x24_1).f2))) (ds := [12]) #[false, false, false, false, false, false, false, false, false, false, false, false, false] (by kernel_rfl) rfl rfl ⟨hx287_0, hx287_1, hx287_2, hx288_0, hx288_1, hx288_2⟩ (fun hHeld => ?_); refine with_tabW disk_Crash.tab10 disk_Crash.bits10 (fun HT_ HW_ => ?_)
   generalize w49.drew = w50 at HO_285000 BK278 BK279 BK284 HB HQ51 hf24_0 hf24_1 hf24_2 hx24_0 hx24_1 hx24_2 hx287_0 hx287_1 hx287_2 hx288_0 hx288_1 hx288_2 hHeld ⊢
   refine pure_ (i := 0) (N := some 41) (v := ?_) (a' := ?_) #[true, false, false, false, false, false, false, false, false, false, false, false, false] rfl rfl (any_of HT_.out (by kernel_rfl)) (fun _ _ _ h => h) (Or.inl ⟨by rfl, ?_⟩) ?_ ?_
   rotate_left
   ·intro w'
    go_simp
    with_reducible rfl
   rotate_left
   ·simp only [Act.put, List.setIfInBounds_toArray, List.set_cons_zero, List.set_cons_succ, i64_w, i32_w]
    rfl
   refine pure_ (i := 1) (N := some 42) (v := ?_) (a' := ?_) #[true, true, false, false, false, false, false, false, false, false, false, false, false] rfl rfl (any_of HT_.out (by kernel_rfl)) (fun _ _ _ h => h) (Or.inl ⟨by rfl, ?_⟩) ?_ ?_
   rotate_left
   ·intro w'
    go_simp
    with_reducible rfl
   rotate_left
   ·simp only [Act.put, List.setIfInBounds_toArray, List.set_cons_zero, List.set_cons_succ, i64_w, i32_w]
    rfl
   refine pure_ (i := 2) (N := some 43) (v := ?_) (a' := ?_) #[true, true, true, false, false, false, false, false, false, false, false, false, false] rfl rfl (any_of HT_.out (by kernel_rfl)) (fun _ _ _ h => h) (Or.inl ⟨by rfl, ?_⟩) ?_ ?_
   rotate_left
   ·intro w'
    go_simp
    with_reducible rfl
   rotate_left
   ·simp only [Act.put, List.setIfInBounds_toArray, List.set_cons_zero, List.set_cons_succ, i64_w, i32_w]
    rfl
   refine pure_ (i := 3) (N := some 44) (v := ?_) (a' := ?_) #[true, true, true, true, false, false, false, false, false, false, false, false, false] rfl rfl (any_of HT_.out (by kernel_rfl)) (fun _ _ _ h => h) (Or.inl ⟨by rfl, ?_⟩) ?_ ?_
   rotate_left
   ·intro w'
    go_simp
    with_reducible rfl
   rotate_left
   ·simp only [Act.put, List.setIfInBounds_toArray, List.set_cons_zero, List.set_cons_succ, i64_w, i32_w]
    rfl
   refine pure_ (i := 5) (N := some 46) (v := ?_) (a' := ?_) #[true, true, true, true, false, true, false, false, false, false, false, false, false] rfl rfl (any_of HT_.out (by kernel_rfl)) (fun _ _ _ h => h) (Or.inl ⟨by rfl, ?_⟩) ?_ ?_
   rotate_left
   ·intro w'
    go_simp
    with_reducible rfl
   rotate_left
   ·simp only [Act.put, List.setIfInBounds_toArray, List.set_cons_zero, List.set_cons_succ, i64_w, i32_w]
    rfl
   refine pure_ (i := 6) (N := some 47) (v := ?_) (a' := ?_) #[true, true, true, true, false, true, true, false, false, false, false, false, false] rfl rfl (any_of HT_.out (by kernel_rfl)) (fun _ _ _ h => h) (Or.inl ⟨by rfl, ?_⟩) ?_ ?_
   rotate_left
   ·intro w'
    go_simp
    with_reducible rfl
   rotate_left
   ·simp only [Act.put, List.setIfInBounds_toArray, List.set_cons_zero, List.set_cons_succ, i64_w, i32_w]
    rfl
   refine pure_ (i := 7) (N := some 48) (v := ?_) (a' := ?_) #[true, true, true, true, false, true, true, true, false, false, false, false, false] rfl rfl (any_of HT_.out (by kernel_rfl)) (fun _ _ _ h => h) (Or.inl ⟨by rfl, ?_⟩) ?_ ?_
   rotate_left
   ·intro w'
    go_simp
    with_reducible rfl
   rotate_left
   ·simp only [Act.put, List.setIfInBounds_toArray, List.set_cons_zero, List.set_cons_succ, i64_w, i32_w]
    rfl
   refine take_ (i := 4) (N := some 45) (v := ?_) (a' := ?_) #[true, true, true, true, true, true, true, true, false, false, false, false, false] rfl rfl (take_ofW HT_.out HW_.out (by kernel_rfl)) (fun _ _ _ h => h) (Or.inl ⟨by rfl, ?_⟩) hHeld ?_ ?_
   rotate_left
   ·rintro w' ⟨s0, s1, s2, s3, s4, s5⟩
    go_simp
    with_reducible rfl
   rotate_left
   ·simp only [Act.put, List.setIfInBounds_toArray, List.set_cons_zero, List.set_cons_succ, i64_w, i32_w]
    rfl
   refine take_ (i := 8) (N := some 49) (v := ?_) (a' := ?_) #[true, true, true, true, true, true, true, true, true, false, false, false, false] rfl rfl (take_ofW HT_.out HW_.out (by kernel_rfl)) (fun _ _ _ h => h) (Or.inl ⟨by rfl, ?_⟩) hHeld ?_ ?_
   rotate_left
   ·rintro w' ⟨s0, s1, s2, s3, s4, s5⟩
    go_simp
    with_reducible rfl
   rotate_left
   ·simp only [Act.put, List.setIfInBounds_toArray, List.set_cons_zero, List.set_cons_succ, i64_w, i32_w]
    rfl
   refine pure_ (i := 9) (N := some 50) (v := ?_) (a' := ?_) #[true, true, true, true, true, true, true, true, true, true, false, false, false] rfl rfl (any_of HT_.out (by kernel_rfl)) (fun _ _ _ h => h) (Or.inl ⟨by rfl, ?_⟩) ?_ ?_
   rotate_left
   ·intro w'
    go_simp
    with_reducible rfl
   rotate_left
   ·simp only [Act.put, List.setIfInBounds_toArray, List.set_cons_zero, List.set_cons_succ, i64_w, i32_w]
    rfl
   refine pure_ (i := 10) (N := some 51) (v := ?_) (a' := ?_) #[true, true, true, true, true, true, true, true, true, true, true, false, false] rfl rfl (any_of HT_.out (by kernel_rfl)) (fun _ _ _ h => h) (Or.inl ⟨by rfl, ?_⟩) ?_ ?_
   rotate_left
   ·intro w'
    go_simp
    with_reducible rfl
   rotate_left
   ·simp only [Act.put, List.setIfInBounds_toArray, List.set_cons_zero, List.set_cons_succ, i64_w, i32_w]
    rfl
   refine pure_ (i := 11) (N := some 52) (v := ?_) (a' := ?_) #[true, true, true, true, true, true, true, true, true, true, true, true, false] rfl rfl (any_of HT_.out (by kernel_rfl)) (fun _ _ _ h => h) (Or.inl ⟨by rfl, ?_⟩) ?_ ?_
   rotate_left
   ·intro w'
    go_simp
    with_reducible rfl
   rotate_left
   ·simp only [Act.put, List.setIfInBounds_toArray, List.set_cons_zero, List.set_cons_succ, i64_w, i32_w]
    rfl
   refine last_ (i := 12) (N := none) #[true, true, true, true, true, true, true, true, true, true, true, true, true] rfl rfl (one_of HT_.out (by kernel_rfl)) (by decide) (fun K hK => ?_)
   refine skip_ (w1 := ?_) (by rfl) rfl ?_ ?_
   rotate_left
   ·go_simp
    rfl
   refine hK.out _ _ ?_
   clear hK K
   refine done_ (done_of HT_.out (by kernel_rfl)) ?_
   have p290 : 0 ≤ (x24_1 : Int) := of_decide_eq_true (by first | (with_reducible assumption) | assumption)
   have q290 : x24_1 < (l1.length : Int) := of_decide_eq_true (by first | (with_reducible assumption) | assumption)
   obtain ⟨ad290, e290, hx290_0⟩ := Kd.at_int HR1.out x24_1 p290 q290
   cases e290
   have hn290_0 : ad290.block ≠ go21 := Nat.ne_of_lt (Nat.lt_of_lt_of_le (by have := World.block_lt_of_cell? _ _ hx290_0; first | rwa [add_block] at this | exact this) GB21.out)
   replace hx290_0 := (HB.out.cell (World.block_lt_of_cell? w _ hx290_0)).trans hx290_0
   replace hx290_0 := (cell_far (p := ⟨go21, (x24_1 : Int).toNat * 3 + 1, none⟩) (by first | (rw [add_block]; exact hn290_0) | (show (Addr.add _ _).block ≠ _; rw [add_block]; exact hn290_0) | exact hn290_0) (.string (((rd_T71 x285000_1 x24_1).f1).extract 0 (((rd_T71 x285000_1 x24_1).f2) : Int).toNat))).trans hx290_0
   clear hn290_0
   replace p290 := eq_true p290
   replace q290 := eq_true q290
   try go_wp2
   have n0_ : Aside0 (Kd.R k71 71 (w50.setCell ⟨go21, (x24_1 : Int).toNat * 3 + 1, none⟩ (.string (((rd_T71 x285000_1 x24_1).f1).extract 0 (((rd_T71 x285000_1 x24_1).f2) : Int).toNat))) w.heap.size (fun _ => True) (.slice (some ⟨go21, 0, none⟩) x285000_1.length co21) y289) := ⟨by (with_reducible repeat (first | apply Kd.R_alloc | apply Kd.R_drewN | apply Kd.R_drew)); exact HQ51.out⟩
   have n1_ : Aside0 ((w50.setCell ⟨go21, (x24_1 : Int).toNat * 3 + 1, none⟩ (.string (((rd_T71 x285000_1 x24_1).f1).extract 0 (((rd_T71 x285000_1 x24_1).f2) : Int).toNat))).heap[gb278]? = some (.cells #[.slice A0_0 l0_0.length c0_0, .bool a0_1, .int .i64 a0_2] 24 (0, 0))) := ⟨by (with_reducible repeat (first | refine blk_drewN ?_ _ | refine blk_drew ?_ | refine blk_alloc ?_ _)); refine blk_far ?_ (by have h_ := Kd.R_ne HO_285000.out BK278.out (by decide); intro e_; exact h_ (by rw [e_]; rfl)) _; (with_reducible repeat (first | refine blk_drewN ?_ _ | refine blk_drew ?_ | refine blk_alloc ?_ _)); exact BK278.out⟩
   have n2_ : Aside0 ((w50.setCell ⟨go21, (x24_1 : Int).toNat * 3 + 1, none⟩ (.string (((rd_T71 x285000_1 x24_1).f1).extract 0 (((rd_T71 x285000_1 x24_1).f2) : Int).toNat))).heap[gb279]? = some (.cells #[.slice none 0 0, .bool false, .int .i64 0] 24 (0, 0))) := ⟨by (with_reducible repeat (first | refine blk_drewN ?_ _ | refine blk_drew ?_ | refine blk_alloc ?_ _)); refine blk_far ?_ (by have h_ := Kd.R_ne HO_285000.out BK279.out (by decide); intro e_; exact h_ (by rw [e_]; rfl)) _; (with_reducible repeat (first | refine blk_drewN ?_ _ | refine blk_drew ?_ | refine blk_alloc ?_ _)); exact BK279.out⟩
   have n3_ : Aside0 ((w50.setCell ⟨go21, (x24_1 : Int).toNat * 3 + 1, none⟩ (.string (((rd_T71 x285000_1 x24_1).f1).extract 0 (((rd_T71 x285000_1 x24_1).f2) : Int).toNat))).heap[gb284]? = some (.cells #[.slice (some ⟨go21, 0, none⟩) x285000_1.length co21, .bool false, .int .i64 (-1)] 24 (0, 0))) := ⟨by (with_reducible repeat (first | refine blk_drewN ?_ _ | refine blk_drew ?_ | refine blk_alloc ?_ _)); refine blk_far ?_ (by have h_ := Kd.R_ne HO_285000.out BK284.out (by decide); intro e_; exact h_ (by rw [e_]; rfl)) _; (with_reducible repeat (first | refine blk_drewN ?_ _ | refine blk_drew ?_ | refine blk_alloc ?_ _)); exact BK284.out⟩
   have n4_ : Aside0 (Below w.heap.size w (w50.setCell ⟨go21, (x24_1 : Int).toNat * 3 + 1, none⟩ (.string (((rd_T71 x285000_1 x24_1).f1).extract 0 (((rd_T71 x285000_1 x24_1).f2) : Int).toNat)))) := ⟨bl_4 HB GB21 GE278 GE279 GE284⟩
   (try clear HO_285000)
   (try clear BK278)
   (try clear BK279)
   (try clear BK284)
   (try clear HB)
   generalize (w50.setCell ⟨go21, (x24_1 : Int).toNat * 3 + 1, none⟩ (.string (((rd_T71 x285000_1 x24_1).f1).extract 0 (((rd_T71 x285000_1 x24_1).f2) : Int).toNat))) = w52 at n0_ n1_ n2_ n3_ n4_ ⊢
   have HO_285000 := n0_
   have BK278 := n1_
   have BK279 := n2_
   have BK284 := n3_
   have HB := n4_
   clear n0_ n1_ n2_ n3_ n4_
   have n0_ := Aside0.mk (Kd.R_drew HO_285000.out)
   have n1_ := Aside0.mk (blk_drew BK278.out)
   have n2_ := Aside0.mk (blk_drew BK279.out)
   have n3_ := Aside0.mk (blk_drew BK284.out)
   have n4_ := Aside0.mk (below_drew1 HB.out)
   clear HO_285000
   clear BK278
   clear BK279
   clear BK284
   clear HB
   have HO_285000 := n0_
   have BK278 := n1_
   have BK279 := n2_
   have BK284 := n3_
   have HB := n4_
   clear n0_ n1_ n2_ n3_ n4_
   have p291 : 0 ≤ (x24_1 : Int) := of_decide_eq_true (by first | (with_reducible assumption) | assumption)
   have q291 : x24_1 < (y289.length : Int) := (by have h_ : (x24_1 : Int) < ((x285000_1.length : Int) : Int) := of_decide_eq_true (by first | (with_reducible assumption) | assumption); first | (have e_ := (Kd.R_reads' HO_285000.out).1; omega) | simpa only [Ny289.out, List.length_set] using h_)
   have ql291 : ((x24_1 : Int) < ((x285000_1.length : Int) : Int)) = True := eq_true (of_decide_eq_true (by first | (with_reducible assumption) | assumption))
   obtain ⟨ad291, e291, hx291_0, hx291_1, hx291_2⟩ := at_T71 (Kd.R_reads' HO_285000.out).2.2 x24_1 p291 q291
   obtain rfl : (⟨go21, 0, none⟩ : Addr) = ad291 := (by injection e291)
   (first | simp only [add_plain] at hx291_0 | simp only [add_at] at hx291_0 | simp only [Addr.add, Nat.zero_add] at hx291_0 | skip)
   (first | simp only [add_plain] at hx291_1 | simp only [add_at] at hx291_1 | simp only [Addr.add, Nat.zero_add] at hx291_1 | skip)
   (first | simp only [add_plain] at hx291_2 | simp only [add_at] at hx291_2 | simp only [Addr.add, Nat.zero_add] at hx291_2 | skip)
   replace p291 := eq_true p291
   replace q291 := eq_true q291
   have p292 : 0 ≤ (x24_1 : Int) := of_decide_eq_true (by first | (with_reducible assumption) | assumption)
   have q292 : x24_1 < (l1.length : Int) := of_decide_eq_true (by first | (with_reducible assumption) | assumption)
   obtain ⟨ad292, e292, hx292_0⟩ := Kd.at_int HR1.out x24_1 p292 q292
   have hw292_0 := hx292_0
   obtain rfl : ad290 = ad292 := (by injection e292)
   replace hx292_0 := (HB.out.cell (World.block_lt_of_cell? w _ hx292_0)).trans hx292_0
   replace p292 := eq_true p292
   replace q292 := eq_true q292
   have p41 : 0 ≤ (x24_1 : Int) := of_decide_eq_true (by first | (with_reducible assumption) | assumption)
   have q41 : (x24_1 : Int) < ((x285000_1.length : Int) : Int) := of_decide_eq_true (by first | (with_reducible assumption) | assumption)
   obtain ⟨ce41, hcl41, hM41, hcc41, hfr41⟩ := Kd.R_elem HO_285000.out z71 (x24_1 : Int) p41 q41
   obtain rfl := k71_openM hM41
   have hx41_0 : World.cell? _ ⟨go21, (x24_1 : Int).toNat * 3, none⟩ = some (.string ((rd_T71 y289 x24_1).f0)) := hcc41 0 _ rfl
   have hx41_1 : World.cell? _ ⟨go21, (x24_1 : Int).toNat * 3 + 1, none⟩ = some (.string ((rd_T71 y289 x24_1).f1)) := hcc41 1 _ rfl
   have hx41_2 : World.cell? _ ⟨go21, (x24_1 : Int).toNat * 3 + 2, none⟩ = some (.int .i64 ((rd_T71 y289 x24_1).f2)) := hcc41 2 _ rfl
   have hf41_0 : World.frozen? _ ⟨go21, (x24_1 : Int).toNat * 3, none⟩ = false := hfr41 0
   have hf41_1 : World.frozen? _ ⟨go21, (x24_1 : Int).toNat * 3 + 1, none⟩ = false := hfr41 1
   have hf41_2 : World.frozen? _ ⟨go21, (x24_1 : Int).toNat * 3 + 2, none⟩ = false := hfr41 2
   clear hcl41 hcc41 hfr41 hM41
   replace p41 := eq_true p41
   replace q41 := eq_true q41
   obtain ⟨ce54, hcl54, hM54, hcc54, hfr54⟩ := Kd.R_elem HO_285000.out z71 (x24_1 : Int) (of_decide_eq_true (by first | (with_reducible assumption) | assumption)) (by have h_ : (x24_1 : Int) < ((x285000_1.length : Int) : Int) := of_decide_eq_true (by first | (with_reducible assumption) | assumption); first | exact h_ | (have e_ := (Kd.R_reads' HO_285000.out).1; omega) | simpa using h_)
   obtain rfl := k71_openM hM54
   have HP54 := (Kd.R_seg HO_285000.out (x24_1 : Int) (of_decide_eq_true (by first | (with_reducible assumption) | assumption)) (by have h_ : (x24_1 : Int) < ((x285000_1.length : Int) : Int) := of_decide_eq_true (by first | (with_reducible assumption) | assumption); first | exact h_ | (have e_ := (Kd.R_reads' HO_285000.out).1; omega) | simpa using h_) (seg := [.int .i64 (wrap64 (((rd_T71 y289 x24_1).f2) + (ji40)))]) (j := 2) hcl54 hcc54 (show 3 ≤ 3 from by decide) (x' := (⟨(rd_T71 y289 x24_1).f0, (rd_T71 y289 x24_1).f1, wrap64 (((rd_T71 y289 x24_1).f2) + (ji40))⟩ : S71)) (k71_mkM _ _ _ (⟨(rd_T71 y289 x24_1).f0, (rd_T71 y289 x24_1).f1, wrap64 (((rd_T71 y289 x24_1).f2) + (ji40))⟩ : S71) ) (fun _ hk => hk)).1
   rw [← Ny293.out] at HP54
   have HQ54 := Aside0.mk HP54
   clear hcl54 hcc54 hfr54 hM54 HP54
   refine start_ (n := 14) (S := fun w' => w'.cell? ⟨go21, (x24_1).toNat * 3, none⟩ = some (.string ((rd_T71 y289 x24_1).f0)) ∧ w'.cell? ⟨go21, (x24_1).toNat * 3 + 1, none⟩ = some (.string ((rd_T71 y289 x24_1).f1)) ∧ w'.cell? ⟨go21, (x24_1).toNat * 3 + 2, none⟩ = some (.int .i64 ((rd_T71 y289 x24_1).f2)) ∧ w'.cell? (ad290.add (x24_1).toNat) = some (.int .i64 (rd l1 x24_1))) (ds := [13]) #[false, false, false, false, false, false, false, false, false, false, false, false, false, false] (by kernel_rfl) rfl rfl ⟨hx291_0, hx291_1, hx291_2, ((HB.out.cell (World.block_lt_of_cell? w _ hw292_0)).trans hw292_0)⟩ (fun hHeld => ?_); refine with_tabW disk_Crash.tab12 disk_Crash.bits12 (fun HT_ HW_ => ?_)
   generalize w52.drew = w53 at HO_285000 BK278 BK279 BK284 HB HQ51 HQ54 hf41_0 hf41_1 hf41_2 hx291_0 hx291_1 hx291_2 hx292_0 hx41_0 hx41_1 hx41_2 hHeld ⊢
   refine pure_ (i := 0) (N := some 64) (v := ?_) (a' := ?_) #[true, false, false, false, false, false, false, false, false, false, false, false, false, false] rfl rfl (any_of HT_.out (by kernel_rfl)) (fun _ _ _ h => h) (Or.inl ⟨by rfl, ?_⟩) ?_ ?_
   rotate_left
   ·intro w'
    go_simp
    with_reducible rfl
   rotate_left
   ·simp only [Act.put, List.setIfInBounds_toArray, List.set_cons_zero, List.set_cons_succ, i64_w, i32_w]
    rfl
   refine pure_ (i := 1) (N := some 65) (v := ?_) (a' := ?_) #[true, true, false, false, false, false, false, false, false, false, false, false, false, false] rfl rfl (any_of HT_.out (by kernel_rfl)) (fun _ _ _ h => h) (Or.inl ⟨by rfl, ?_⟩) ?_ ?_
   rotate_left
   ·intro w'
    go_simp
    with_reducible rfl
   rotate_left
   ·simp only [Act.put, List.setIfInBounds_toArray, List.set_cons_zero, List.set_cons_succ, i64_w, i32_w]
    rfl
   refine pure_ (i := 2) (N := some 66) (v := ?_) (a' := ?_) #[true, true, true, false, false, false, false, false, false, false, false, false, false, false] rfl rfl (any_of HT_.out (by kernel_rfl)) (fun _ _ _ h => h) (Or.inl ⟨by rfl, ?_⟩) ?_ ?_
   rotate_left
   ·intro w'
    go_simp
    with_reducible rfl
   rotate_left
   ·simp only [Act.put, List.setIfInBounds_toArray, List.set_cons_zero, List.set_cons_succ, i64_w, i32_w]
    rfl
   refine pure_ (i := 4) (N := some 68) (v := ?_) (a' := ?_) #[true, true, true, false, true, false, false, false, false, false, false, false, false, false] rfl rfl (any_of HT_.out (by kernel_rfl)) (fun _ _ _ h => h) (Or.inl ⟨by rfl, ?_⟩) ?_ ?_
   rotate_left
   ·intro w'
    go_simp
    with_reducible rfl
   rotate_left
   ·simp only [Act.put, List.setIfInBounds_toArray, List.set_cons_zero, List.set_cons_succ, i64_w, i32_w]
    rfl
   refine pure_ (i := 5) (N := some 69) (v := ?_) (a' := ?_) #[true, true, true, false, true, true, false, false, false, false, false, false, false, false] rfl rfl (any_of HT_.out (by kernel_rfl)) (fun _ _ _ h => h) (Or.inl ⟨by rfl, ?_⟩) ?_ ?_
   rotate_left
   ·intro w'
    go_simp
    with_reducible rfl
   rotate_left
   ·simp only [Act.put, List.setIfInBounds_toArray, List.set_cons_zero, List.set_cons_succ, i64_w, i32_w]
    rfl
   refine pure_ (i := 6) (N := some 70) (v := ?_) (a' := ?_) #[true, true, true, false, true, true, true, false, false, false, false, false, false, false] rfl rfl (any_of HT_.out (by kernel_rfl)) (fun _ _ _ h => h) (Or.inl ⟨by rfl, ?_⟩) ?_ ?_
   rotate_left
   ·intro w'
    go_simp
    with_reducible rfl
   rotate_left
   ·simp only [Act.put, List.setIfInBounds_toArray, List.set_cons_zero, List.set_cons_succ, i64_w, i32_w]
    rfl
   refine pure_ (i := 8) (N := some 72) (v := ?_) (a' := ?_) #[true, true, true, false, true, true, true, false, true, false, false, false, false, false] rfl rfl (any_of HT_.out (by kernel_rfl)) (fun _ _ _ h => h) (Or.inl ⟨by rfl, ?_⟩) ?_ ?_
   rotate_left
   ·intro w'
    go_simp
    with_reducible rfl
   rotate_left
   ·simp only [Act.put, List.setIfInBounds_toArray, List.set_cons_zero, List.set_cons_succ, i64_w, i32_w]
    rfl
   refine take_ (i := 3) (N := some 67) (v := ?_) (a' := ?_) #[true, true, true, true, true, true, true, false, true, false, false, false, false, false] rfl rfl (take_ofW HT_.out HW_.out (by kernel_rfl)) (fun _ _ _ h => h) (Or.inl ⟨by rfl, ?_⟩) hHeld ?_ ?_
   rotate_left
   ·rintro w' ⟨s0, s1, s2, s3⟩
    go_simp
    with_reducible rfl
   rotate_left
   ·simp only [Act.put, List.setIfInBounds_toArray, List.set_cons_zero, List.set_cons_succ, i64_w, i32_w]
    rfl
   refine take_ (i := 7) (N := some 71) (v := ?_) (a' := ?_) #[true, true, true, true, true, true, true, true, true, false, false, false, false, false] rfl rfl (take_ofW HT_.out HW_.out (by kernel_rfl)) (fun _ _ _ h => h) (Or.inl ⟨by rfl, ?_⟩) hHeld ?_ ?_
   rotate_left
   ·rintro w' ⟨s0, s1, s2, s3⟩
    go_simp
    with_reducible rfl
   rotate_left
   ·simp only [Act.put, List.setIfInBounds_toArray, List.set_cons_zero, List.set_cons_succ, i64_w, i32_w]
    rfl
   refine pure_ (i := 9) (N := some 73) (v := ?_) (a' := ?_) #[true, true, true, true, true, true, true, true, true, true, false, false, false, false] rfl rfl (any_of HT_.out (by kernel_rfl)) (fun _ _ _ h => h) (Or.inl ⟨by rfl, ?_⟩) ?_ ?_
   rotate_left
   ·intro w'
    go_simp
    with_reducible rfl
   rotate_left
   ·simp only [Act.put, List.setIfInBounds_toArray, List.set_cons_zero, List.set_cons_succ, i64_w, i32_w]
    rfl
   refine pure_ (i := 10) (N := some 74) (v := ?_) (a' := ?_) #[true, true, true, true, true, true, true, true, true, true, true, false, false, false] rfl rfl (any_of HT_.out (by kernel_rfl)) (fun _ _ _ h => h) (Or.inl ⟨by rfl, ?_⟩) ?_ ?_
   rotate_left
   ·intro w'
    go_simp
    with_reducible rfl
   rotate_left
   ·simp only [Act.put, List.setIfInBounds_toArray, List.set_cons_zero, List.set_cons_succ, i64_w, i32_w]
    rfl
   refine pure_ (i := 11) (N := some 75) (v := ?_) (a' := ?_) #[true, true, true, true, true, true, true, true, true, true, true, true, false, false] rfl rfl (any_of HT_.out (by kernel_rfl)) (fun _ _ _ h => h) (Or.inl ⟨by rfl, ?_⟩) ?_ ?_
   rotate_left
   ·intro w'
    go_simp
    with_reducible rfl
   rotate_left
   ·simp only [Act.put, List.setIfInBounds_toArray, List.set_cons_zero, List.set_cons_succ, i64_w, i32_w]
    rfl
   refine pure_ (i := 12) (N := some 76) (v := ?_) (a' := ?_) #[true, true, true, true, true, true, true, true, true, true, true, true, true, false] rfl rfl (any_of HT_.out (by kernel_rfl)) (fun _ _ _ h => h) (Or.inl ⟨by rfl, ?_⟩) ?_ ?_
   rotate_left
   ·intro w'
    go_simp
    with_reducible rfl
   rotate_left
   ·simp only [Act.put, List.setIfInBounds_toArray, List.set_cons_zero, List.set_cons_succ, i64_w, i32_w]
    rfl
   refine last_ (i := 13) (N := none) #[true, true, true, true, true, true, true, true, true, true, true, true, true, true] rfl rfl (one_of HT_.out (by kernel_rfl)) (by decide) (fun K hK => ?_)
   refine skip_ (w1 := ?_) (by rfl) rfl ?_ ?_
   rotate_left
   ·go_simp
    rfl
   refine hK.out _ _ ?_
   clear hK K
   refine done_ (done_of HT_.out (by kernel_rfl)) ?_
   try go_wp2
   have n0_ : Aside0 (Kd.R k71 71 (w53.setCell ⟨go21, (x24_1 : Int).toNat * 3 + 2, none⟩ (.int .i64 (wrap64 (((rd_T71 y289 x24_1).f2) + (ji40))))) w.heap.size (fun _ => True) (.slice (some ⟨go21, 0, none⟩) x285000_1.length co21) y293) := ⟨by (with_reducible repeat (first | apply Kd.R_alloc | apply Kd.R_drewN | apply Kd.R_drew)); exact HQ54.out⟩
   have n1_ : Aside0 ((w53.setCell ⟨go21, (x24_1 : Int).toNat * 3 + 2, none⟩ (.int .i64 (wrap64 (((rd_T71 y289 x24_1).f2) + (ji40))))).heap[gb278]? = some (.cells #[.slice A0_0 l0_0.length c0_0, .bool a0_1, .int .i64 a0_2] 24 (0, 0))) := ⟨by (with_reducible repeat (first | refine blk_drewN ?_ _ | refine blk_drew ?_ | refine blk_alloc ?_ _)); refine blk_far ?_ (by have h_ := Kd.R_ne HO_285000.out BK278.out (by decide); intro e_; exact h_ (by rw [e_]; rfl)) _; (with_reducible repeat (first | refine blk_drewN ?_ _ | refine blk_drew ?_ | refine blk_alloc ?_ _)); exact BK278.out⟩
   have n2_ : Aside0 ((w53.setCell ⟨go21, (x24_1 : Int).toNat * 3 + 2, none⟩ (.int .i64 (wrap64 (((rd_T71 y289 x24_1).f2) + (ji40))))).heap[gb279]? = some (.cells #[.slice none 0 0, .bool false, .int .i64 0] 24 (0, 0))) := ⟨by (with_reducible repeat (first | refine blk_drewN ?_ _ | refine blk_drew ?_ | refine blk_alloc ?_ _)); refine blk_far ?_ (by have h_ := Kd.R_ne HO_285000.out BK279.out (by decide); intro e_; exact h_ (by rw [e_]; rfl)) _; (with_reducible repeat (first | refine blk_drewN ?_ _ | refine blk_drew ?_ | refine blk_alloc ?_ _)); exact BK279.out⟩
   have n3_ : Aside0 ((w53.setCell ⟨go21, (x24_1 : Int).toNat * 3 + 2, none⟩ (.int .i64 (wrap64 (((rd_T71 y289 x24_1).f2) + (ji40))))).heap[gb284]? = some (.cells #[.slice (some ⟨go21, 0, none⟩) x285000_1.length co21, .bool false, .int .i64 (-1)] 24 (0, 0))) := ⟨by (with_reducible repeat (first | refine blk_drewN ?_ _ | refine blk_drew ?_ | refine blk_alloc ?_ _)); refine blk_far ?_ (by have h_ := Kd.R_ne HO_285000.out BK284.out (by decide); intro e_; exact h_ (by rw [e_]; rfl)) _; (with_reducible repeat (first | refine blk_drewN ?_ _ | refine blk_drew ?_ | refine blk_alloc ?_ _)); exact BK284.out⟩
   have n4_ : Aside0 (Below w.heap.size w (w53.setCell ⟨go21, (x24_1 : Int).toNat * 3 + 2, none⟩ (.int .i64 (wrap64 (((rd_T71 y289 x24_1).f2) + (ji40)))))) := ⟨bl_4 HB GB21 GE278 GE279 GE284⟩
   (try clear HO_285000)
   (try clear BK278)
   (try clear BK279)
   (try clear BK284)
   (try clear HB)
   generalize (w53.setCell ⟨go21, (x24_1 : Int).toNat * 3 + 2, none⟩ (.int .i64 (wrap64 (((rd_T71 y289 x24_1).f2) + (ji40))))) = w55 at n0_ n1_ n2_ n3_ n4_ ⊢
   have HO_285000 := n0_
   have BK278 := n1_
   have BK279 := n2_
   have BK284 := n3_
   have HB := n4_
   clear n0_ n1_ n2_ n3_ n4_
   have n0_ := Aside0.mk (Kd.R_drew HO_285000.out)
   have n1_ := Aside0.mk (blk_drew BK278.out)
   have n2_ := Aside0.mk (blk_drew BK279.out)
   have n3_ := Aside0.mk (blk_drew BK284.out)
   have n4_ := Aside0.mk (below_drew1 HB.out)
   clear HO_285000
   clear BK278
   clear BK279
   clear BK284
   clear HB
   have HO_285000 := n0_
   have BK278 := n1_
   have BK279 := n2_
   have BK284 := n3_
   have HB := n4_
   clear n0_ n1_ n2_ n3_ n4_
   have p294 : 0 ≤ (x24_1 : Int) := of_decide_eq_true (by first | (with_reducible assumption) | assumption)
   have q294 : x24_1 < (l0_0.length : Int) := of_decide_eq_true (by first | (with_reducible assumption) | assumption)
   obtain ⟨ad294, e294, hx294_0, hx294_1, hx294_2⟩ := at_T71 HR0_0.out x24_1 p294 q294
   have hw294_2 := hx294_2
   have hw294_1 := hx294_1
   have hw294_0 := hx294_0
   cases e294
   replace hx294_0 := (HB.out.cell (World.block_lt_of_cell? w _ hx294_0)).trans hx294_0
   replace hx294_1 := (HB.out.cell (World.block_lt_of_cell? w _ hx294_1)).trans hx294_1
   replace hx294_2 := (HB.out.cell (World.block_lt_of_cell? w _ hx294_2)).trans hx294_2
   replace p294 := eq_true p294
   replace q294 := eq_true q294
   have p295 : 0 ≤ (x24_1 : Int) := of_decide_eq_true (by first | (with_reducible assumption) | assumption)
   have q295 : x24_1 < (y293.length : Int) := (by have h_ : (x24_1 : Int) < ((x285000_1.length : Int) : Int) := of_decide_eq_true (by first | (with_reducible assumption) | assumption); first | (have e_ := (Kd.R_reads' HO_285000.out).1; omega) | simpa only [Ny289.out, Ny293.out, List.length_set] using h_)
   have ql295 : ((x24_1 : Int) < ((x285000_1.length : Int) : Int)) = True := eq_true (of_decide_eq_true (by first | (with_reducible assumption) | assumption))
   obtain ⟨ad295, e295, hx295_0, hx295_1, hx295_2⟩ := at_T71 (Kd.R_reads' HO_285000.out).2.2 x24_1 p295 q295
   obtain rfl : (⟨go21, 0, none⟩ : Addr) = ad295 := (by injection e295)
   (first | simp only [add_plain] at hx295_0 | simp only [add_at] at hx295_0 | simp only [Addr.add, Nat.zero_add] at hx295_0 | skip)
   (first | simp only [add_plain] at hx295_1 | simp only [add_at] at hx295_1 | simp only [Addr.add, Nat.zero_add] at hx295_1 | skip)
   (first | simp only [add_plain] at hx295_2 | simp only [add_at] at hx295_2 | simp only [Addr.add, Nat.zero_add] at hx295_2 | skip)
   replace p295 := eq_true p295
   replace q295 := eq_true q295
   have p45 : 0 ≤ (x24_1 : Int) := of_decide_eq_true (by first | (with_reducible assumption) | assumption)
   have q45 : (x24_1 : Int) < ((x285000_1.length : Int) : Int) := of_decide_eq_true (by first | (with_reducible assumption) | assumption)
   obtain ⟨ce45, hcl45, hM45, hcc45, hfr45⟩ := Kd.R_elem HO_285000.out z71 (x24_1 : Int) p45 q45
   obtain rfl := k71_openM hM45
   have hx45_0 : World.cell? _ ⟨go21, (x24_1 : Int).toNat * 3, none⟩ = some (.string ((rd_T71 y293 x24_1).f0)) := hcc45 0 _ rfl
   have hx45_1 : World.cell? _ ⟨go21, (x24_1 : Int).toNat * 3 + 1, none⟩ = some (.string ((rd_T71 y293 x24_1).f1)) := hcc45 1 _ rfl
   have hx45_2 : World.cell? _ ⟨go21, (x24_1 : Int).toNat * 3 + 2, none⟩ = some (.int .i64 ((rd_T71 y293 x24_1).f2)) := hcc45 2 _ rfl
   have hf45_0 : World.frozen? _ ⟨go21, (x24_1 : Int).toNat * 3, none⟩ = false := hfr45 0
   have hf45_1 : World.frozen? _ ⟨go21, (x24_1 : Int).toNat * 3 + 1, none⟩ = false := hfr45 1
   have hf45_2 : World.frozen? _ ⟨go21, (x24_1 : Int).toNat * 3 + 2, none⟩ = false := hfr45 2
   clear hcl45 hcc45 hfr45 hM45
   replace p45 := eq_true p45
   replace q45 := eq_true q45
   obtain ⟨ce57, hcl57, hM57, hcc57, hfr57⟩ := Kd.R_elem HO_285000.out z71 (x24_1 : Int) (of_decide_eq_true (by first | (with_reducible assumption) | assumption)) (by have h_ : (x24_1 : Int) < ((x285000_1.length : Int) : Int) := of_decide_eq_true (by first | (with_reducible assumption) | assumption); first | exact h_ | (have e_ := (Kd.R_reads' HO_285000.out).1; omega) | simpa using h_)
   obtain rfl := k71_openM hM57
   have HP57 := (Kd.R_seg HO_285000.out (x24_1 : Int) (of_decide_eq_true (by first | (with_reducible assumption) | assumption)) (by have h_ : (x24_1 : Int) < ((x285000_1.length : Int) : Int) := of_decide_eq_true (by first | (with_reducible assumption) | assumption); first | exact h_ | (have e_ := (Kd.R_reads' HO_285000.out).1; omega) | simpa using h_) (seg := [.string (((rd_T71 l0_0 x24_1).f1).extract 0 (((rd_T71 y293 x24_1).f2) : Int).toNat)]) (j := 1) hcl57 hcc57 (show 2 ≤ 3 from by decide) (x' := (⟨(rd_T71 y293 x24_1).f0, ((rd_T71 l0_0 x24_1).f1).extract 0 (((rd_T71 y293 x24_1).f2) : Int).toNat, (rd_T71 y293 x24_1).f2⟩ : S71)) (k71_mkM _ _ _ (⟨(rd_T71 y293 x24_1).f0, ((rd_T71 l0_0 x24_1).f1).extract 0 (((rd_T71 y293 x24_1).f2) : Int).toNat, (rd_T71 y293 x24_1).f2⟩ : S71) ) (fun _ hk => hk)).1
   rw [← Ny296.out] at HP57
   have HQ57 := Aside0.mk HP57
   clear hcl57 hcc57 hfr57 hM57 HP57
   refine start_ (n := 15) (S := fun w' => w'.cell? ⟨gb278, 0, none⟩ = some (.slice (some ad294) l0_0.length c0_0) ∧ w'.cell? ⟨gb278, 1, none⟩ = some (.bool a0_1) ∧ w'.cell? ⟨gb278, 2, none⟩ = some (.int .i64 a0_2) ∧ w'.cell? (ad294.add ((x24_1).toNat * 3)) = some (.string ((rd_T71 l0_0 x24_1).f0)) ∧ w'.cell? ⟨(ad294.add ((x24_1).toNat * 3)).block, (ad294.add ((x24_1).toNat * 3)).off + 1, none⟩ = some (.string ((rd_T71 l0_0 x24_1).f1)) ∧ w'.cell? ⟨(ad294.add ((x24_1).toNat * 3)).block, (ad294.add ((x24_1).toNat * 3)).off + 2, none⟩ = some (.int .i64 ((rd_T71 l0_0 x24_1).f2)) ∧ w'.cell? ⟨go21, (x24_1).toNat * 3, none⟩ = some (.string ((rd_T71 y293 x24_1).f0)) ∧ w'.cell? ⟨go21, (x24_1).toNat * 3 + 1, none⟩ = some (.string ((rd_T71 y293 x24_1).f1)) ∧ w'.cell? ⟨go21, (x24_1).toNat * 3 + 2, none⟩ = some (.int .i64 ((rd_T71 y293 x24_1).f2))) (ds := [14]) #[false, false, false, false, false, false, false, false, false, false, false, false, false, false, false] (by kernel_rfl) rfl rfl ⟨(blk_cell BK278.out 0).trans rfl, (blk_cell BK278.out 1).trans rfl, (blk_cell BK278.out 2).trans rfl, ((HB.out.cell (World.block_lt_of_cell? w _ hw294_0)).trans hw294_0), ((HB.out.cell (World.block_lt_of_cell? w _ hw294_1)).trans hw294_1), ((HB.out.cell (World.block_lt_of_cell? w _ hw294_2)).trans hw294_2), hx295_0, hx295_1, hx295_2⟩ (fun hHeld => ?_); refine with_tabW disk_Crash.tab13 disk_Crash.bits13 (fun HT_ HW_ => ?_)
   generalize w55.drew = w56 at HO_285000 BK278 BK279 BK284 HB HQ54 HQ57 hf45_0 hf45_1 hf45_2 hx294_0 hx294_1 hx294_2 hx295_0 hx295_1 hx295_2 hx45_0 hx45_1 hx45_2 hHeld ⊢
   refine pure_ (i := 0) (N := some 77) (v := ?_) (a' := ?_) #[true, false, false, false, false, false, false, false, false, false, false, false, false, false, false] rfl rfl (any_of HT_.out (by kernel_rfl)) (fun _ _ _ h => h) (Or.inl ⟨by rfl, ?_⟩) ?_ ?_
   rotate_left
   ·intro w'
    go_simp
    with_reducible rfl
   rotate_left
   ·simp only [Act.put, List.setIfInBounds_toArray, List.set_cons_zero, List.set_cons_succ, i64_w, i32_w]
    rfl
   refine pure_ (i := 1) (N := some 78) (v := ?_) (a' := ?_) #[true, true, false, false, false, false, false, false, false, false, false, false, false, false, false] rfl rfl (any_of HT_.out (by kernel_rfl)) (fun _ _ _ h => h) (Or.inl ⟨by rfl, ?_⟩) ?_ ?_
   rotate_left
   ·intro w'
    go_simp
    with_reducible rfl
   rotate_left
   ·simp only [Act.put, List.setIfInBounds_toArray, List.set_cons_zero, List.set_cons_succ, i64_w, i32_w]
    rfl
   refine pure_ (i := 3) (N := some 80) (v := ?_) (a' := ?_) #[true, true, false, true, false, false, false, false, false, false, false, false, false, false, false] rfl rfl (any_of HT_.out (by kernel_rfl)) (fun _ _ _ h => h) (Or.inl ⟨by rfl, ?_⟩) ?_ ?_
   rotate_left
   ·intro w'
    go_simp
    with_reducible rfl
   rotate_left
   ·simp only [Act.put, List.setIfInBounds_toArray, List.set_cons_zero, List.set_cons_succ, i64_w, i32_w]
    rfl
   refine pure_ (i := 7) (N := some 84) (v := ?_) (a' := ?_) #[true, true, false, true, false, false, false, true, false, false, false, false, false, false, false] rfl rfl (any_of HT_.out (by kernel_rfl)) (fun _ _ _ h => h) (Or.inl ⟨by rfl, ?_⟩) ?_ ?_
   rotate_left
   ·intro w'
    go_simp
    with_reducible rfl
   rotate_left
   ·simp only [Act.put, List.setIfInBounds_toArray, List.set_cons_zero, List.set_cons_succ, i64_w, i32_w]
    rfl
   refine pure_ (i := 8) (N := some 85) (v := ?_) (a' := ?_) #[true, true, false, true, false, false, false, true, true, false, false, false, false, false, false] rfl rfl (any_of HT_.out (by kernel_rfl)) (fun _ _ _ h => h) (Or.inl ⟨by rfl, ?_⟩) ?_ ?_
   rotate_left
   ·intro w'
    go_simp
    with_reducible rfl
   rotate_left
   ·simp only [Act.put, List.setIfInBounds_toArray, List.set_cons_zero, List.set_cons_succ, i64_w, i32_w]
    rfl
   refine pure_ (i := 9) (N := some 86) (v := ?_) (a' := ?_) #[true, true, false, true, false, false, false, true, true, true, false, false, false, false, false] rfl rfl (any_of HT_.out (by kernel_rfl)) (fun _ _ _ h => h) (Or.inl ⟨by rfl, ?_⟩) ?_ ?_
   rotate_left
   ·intro w'
    go_simp
    with_reducible rfl
   rotate_left
   ·simp only [Act.put, List.setIfInBounds_toArray, List.set_cons_zero, List.set_cons_succ, i64_w, i32_w]
    rfl
   refine take_ (i := 2) (N := some 79) (v := ?_) (a' := ?_) #[true, true, true, true, false, false, false, true, true, true, false, false, false, false, false] rfl rfl (take_ofW HT_.out HW_.out (by kernel_rfl)) (fun _ _ _ h => h) (Or.inl ⟨by rfl, ?_⟩) hHeld ?_ ?_
   rotate_left
   ·rintro w' ⟨s0, s1, s2, s3, s4, s5, s6, s7, s8⟩
    go_simp
    with_reducible rfl
   rotate_left
   ·simp only [Act.put, List.setIfInBounds_toArray, List.set_cons_zero, List.set_cons_succ, i64_w, i32_w]
    rfl
   refine pure_ (i := 4) (N := some 81) (v := ?_) (a' := ?_) #[true, true, true, true, true, false, false, true, true, true, false, false, false, false, false] rfl rfl (any_of HT_.out (by kernel_rfl)) (fun _ _ _ h => h) (Or.inl ⟨by rfl, ?_⟩) ?_ ?_
   rotate_left
   ·intro w'
    go_simp
    with_reducible rfl
   rotate_left
   ·simp only [Act.put, List.setIfInBounds_toArray, List.set_cons_zero, List.set_cons_succ, i64_w, i32_w]
    rfl
   refine pure_ (i := 5) (N := some 82) (v := ?_) (a' := ?_) #[true, true, true, true, true, true, false, true, true, true, false, false, false, false, false] rfl rfl (any_of HT_.out (by kernel_rfl)) (fun _ _ _ h => h) (Or.inl ⟨by rfl, ?_⟩) ?_ ?_
   rotate_left
   ·intro w'
    go_simp
    with_reducible rfl
   rotate_left
   ·simp only [Act.put, List.setIfInBounds_toArray, List.set_cons_zero, List.set_cons_succ, i64_w, i32_w]
    rfl
   refine take_ (i := 6) (N := some 83) (v := ?_) (a' := ?_) #[true, true, true, true, true, true, true, true, true, true, false, false, false, false, false] rfl rfl (take_ofW HT_.out HW_.out (by kernel_rfl)) (fun _ _ _ h => h) (Or.inl ⟨by rfl, ?_⟩) hHeld ?_ ?_
   rotate_left
   ·rintro w' ⟨s0, s1, s2, s3, s4, s5, s6, s7, s8⟩
    go_simp
    with_reducible rfl
   rotate_left
   ·simp only [Act.put, List.setIfInBounds_toArray, List.set_cons_zero, List.set_cons_succ, i64_w, i32_w]
    rfl
   refine take_ (i := 10) (N := some 87) (v := ?_) (a' := ?_) #[true, true, true, true, true, true, true, true, true, true, true, false, false, false, false] rfl rfl (take_ofW HT_.out HW_.out (by kernel_rfl)) (fun _ _ _ h => h) (Or.inl ⟨by rfl, ?_⟩) hHeld ?_ ?_
   rotate_left
   ·rintro w' ⟨s0, s1, s2, s3, s4, s5, s6, s7, s8⟩
    go_simp
    with_reducible rfl
   rotate_left
   ·simp only [Act.put, List.setIfInBounds_toArray, List.set_cons_zero, List.set_cons_succ, i64_w, i32_w]
    rfl
   refine pure_ (i := 11) (N := some 88) (v := ?_) (a' := ?_) #[true, true, true, true, true, true, true, true, true, true, true, true, false, false, false] rfl rfl (any_of HT_.out (by kernel_rfl)) (fun _ _ _ h => h) (Or.inl ⟨by rfl, ?_⟩) ?_ ?_
   rotate_left
   ·intro w'
    go_simp
    with_reducible rfl
   rotate_left
   ·simp only [Act.put, List.setIfInBounds_toArray, List.set_cons_zero, List.set_cons_succ, i64_w, i32_w]
    rfl
   refine pure_ (i := 12) (N := some 89) (v := ?_) (a' := ?_) #[true, true, true, true, true, true, true, true, true, true, true, true, true, false, false] rfl rfl (any_of HT_.out (by kernel_rfl)) (fun _ _ _ h => h) (Or.inl ⟨by rfl, ?_⟩) ?_ ?_
   rotate_left
   ·intro w'
    go_simp
    with_reducible rfl
   rotate_left
   ·simp only [Act.put, List.setIfInBounds_toArray, List.set_cons_zero, List.set_cons_succ, i64_w, i32_w]
    rfl
   refine pure_ (i := 13) (N := some 90) (v := ?_) (a' := ?_) #[true, true, true, true, true, true, true, true, true, true, true, true, true, true, false] rfl rfl (any_of HT_.out (by kernel_rfl)) (fun _ _ _ h => h) (Or.inl ⟨by rfl, ?_⟩) ?_ ?_
   rotate_left
   ·intro w'
    go_simp
    with_reducible rfl
   rotate_left
   ·simp only [Act.put, List.setIfInBounds_toArray, List.set_cons_zero, List.set_cons_succ, i64_w, i32_w]
    rfl
   refine last_ (i := 14) (N := none) #[true, true, true, true, true, true, true, true, true, true, true, true, true, true, true] rfl rfl (one_of HT_.out (by kernel_rfl)) (by decide) (fun K hK => ?_)
   refine skip_ (w1 := ?_) (by rfl) rfl ?_ ?_
   rotate_left
   ·go_simp
    rfl
   refine hK.out _ _ ?_
   clear hK K
   refine done_ (done_of HT_.out (by kernel_rfl)) ?_
   try go_wp2
   go_roundg k1
   case measure => have := HK1.out; omega
   case rel => exact ⟨(wrap64 (x24_1 + 1)), (y296), (.slice (some ⟨go21, 0, none⟩) x285000_1.length co21), (by first | rfl | (simp; done) | (simp [*]; done)), H', ⟨by have := HK1.out; omega⟩, ⟨by (with_reducible repeat (first | apply Kd.R_alloc | apply Kd.R_drewN | apply Kd.R_drew)); exact HQ57.out⟩, ⟨by (with_reducible repeat (first | refine blk_drewN ?_ _ | refine blk_drew ?_ | refine blk_alloc ?_ _)); refine blk_far ?_ (by have h_ := Kd.R_ne HO_285000.out BK278.out (by decide); intro e_; exact h_ (by rw [e_]; rfl)) _; (with_reducible repeat (first | refine blk_drewN ?_ _ | refine blk_drew ?_ | refine blk_alloc ?_ _)); exact BK278.out⟩, ⟨by (with_reducible repeat (first | refine blk_drewN ?_ _ | refine blk_drew ?_ | refine blk_alloc ?_ _)); refine blk_far ?_ (by have h_ := Kd.R_ne HO_285000.out BK279.out (by decide); intro e_; exact h_ (by rw [e_]; rfl)) _; (with_reducible repeat (first | refine blk_drewN ?_ _ | refine blk_drew ?_ | refine blk_alloc ?_ _)); exact BK279.out⟩, ⟨by (with_reducible repeat (first | refine blk_drewN ?_ _ | refine blk_drew ?_ | refine blk_alloc ?_ _)); refine blk_far ?_ (by have h_ := Kd.R_ne HO_285000.out BK284.out (by decide); intro e_; exact h_ (by rw [e_]; rfl)) _; (with_reducible repeat (first | refine blk_drewN ?_ _ | refine blk_drew ?_ | refine blk_alloc ?_ _)); exact BK284.out⟩, ⟨bl_4 HB GB21 GE278 GE279 GE284⟩⟩end Go.Proofs.Ytpigjmjbfpipnaa.PB
