-- Written for this claim by a program of this session. Lean checks it.
import Derived.Test.YtpigjmjbfpipnaaPEx0
import Derived.Test.YtpigjmjbfpipnaaPEx2
import Derived.Test.YtpigjmjbfpipnaaPEx7
namespace Go.Proofs.Ytpigjmjbfpipnaa.PE
open Go.RowKit Go.Proofs.YtpigjmjbfpipnaaW.PrintWords Go.Proofs.YtpigjmjbfpipnaaW.PrintLast Go.Proofs.YtpigjmjbfpipnaaW.PrintMore Go.Proofs.Ytpigjmjbfpipnaa.Sh Go.Proofs.Ytpigjmjbfpipnaa.Op
attribute [local go_sem] max2_int min2_int max_two min_two max_three min_three max_four min_four   -- for this text's walks alone
set_option linter.unusedVariables false
set_option maxHeartbeats 80000000
set_option maxRecDepth 100000
set_option linter.unusedSimpArgs false

/-! ### disk_Crash: function 23 -/
def disk_Crash.l0 : Nat → List Int → Int → Int → List (S71) → Bool → Int → List (S71) → Bool → Int → Option ((List (S71)) × Bool × Int × Int)
 | 0, _, _, _, _, _, _, _, _, _ => none
 | k + 1, x1, x23, x24, x408000, x408001, x408002, x414000, x414001, x414002 => if x24 < x23 then (if 0 ≤ x24 then (if x24 < (x414000.length : Int) then (if 0 ≤ ((rd_T71 x414000 x24).f2) then (if ((rd_T71 x414000 x24).f2) ≤ (((rd_T71 x414000 x24).f1).size : Int) then ((some (x414000.set (x24 : Int).toNat (⟨(rd_T71 x414000 x24).f0, ((rd_T71 x414000 x24).f1).extract 0 (((rd_T71 x414000 x24).f2) : Int).toNat, (rd_T71 x414000 x24).f2⟩ : S71) : List (S71))).bind fun y418 => (if x24 ≥ (x1.length : Int) then (disk_Crash.l0 k x1 x23 (wrap64 (x24 + 1)) x408000 x408001 x408002 y418 x414001 x414002) else (if x24 < (x1.length : Int) then (if (rd x1 x24) ≤ 0 then (disk_Crash.l0 k x1 x23 (wrap64 (x24 + 1)) x408000 x408001 x408002 y418 x414001 x414002) else ((some (y418.set (x24 : Int).toNat (⟨(rd_T71 y418 x24).f0, (rd_T71 y418 x24).f1, wrap64 (((rd_T71 y418 x24).f2) + (mn (rd x1 x24) (wrap64 ((((rd_T71 x414000 x24).f1).size : Int) - ((rd_T71 x414000 x24).f2)))))⟩ : S71) : List (S71))).bind fun y422 => (if x24 < (x408000.length : Int) then (if 0 ≤ ((rd_T71 y422 x24).f2) then (if ((rd_T71 y422 x24).f2) ≤ (((rd_T71 x408000 x24).f1).size : Int) then (disk_Crash.l0 k x1 x23 (wrap64 (x24 + 1)) x408000 x408001 x408002 (y422.set (x24 : Int).toNat (⟨(rd_T71 y422 x24).f0, ((rd_T71 x408000 x24).f1).extract 0 (((rd_T71 y422 x24).f2) : Int).toNat, (rd_T71 y422 x24).f2⟩ : S71)) x414001 x414002) else (none)) else (none)) else (none)))) else (none)))) else (none)) else (none)) else (none)) else (none)) else (some (x414000, x414001, x414002, 0))
def disk_Crash.f (k : Nat) (l0_0 : List (S71)) (a0_1 : Bool) (a0_2 : Int) (l1 : List Int) : Option ((List (S71)) × Bool × Int × Int) := (disk_Check.f k l0_0 a0_1 a0_2).bind fun t409 => (if t409 = 0 then ((api_File_48.f l0_0).bind fun t410 => (disk_Crash.l0 k l1 (t410.length : Int) 0 l0_0 a0_1 a0_2 t410 false (-1))) else (some (([] : List (S71)), false, 0, t409)))
theorem disk_Crash.mono_l : ∀ k, (∀ y0 y1 y2 y3 y4 y5 y6 y7 y8, LeO (disk_Crash.l0 k y0 y1 y2 y3 y4 y5 y6 y7 y8) (disk_Crash.l0 (k + 1) y0 y1 y2 y3 y4 y5 y6 y7 y8))
 | 0 => fun _ _ _ _ _ _ _ _ _ r h => by simp [disk_Crash.l0] at h
 | k + 1 => by
  have ih0 := disk_Crash.mono_l k
  ·intro y0 y1 y2 y3 y4 y5 y6 y7 y8
   unfold disk_Crash.l0
   repeat' with_reducible first | exact ih0 _ _ _ _ _ _ _ _ _ | exact disk_Check.mono _ _ _ _ | exact LeO.refl _ | exact LeO.none _ | refine LeO.ite ?_ ?_ | refine LeO.bind ?_ (fun _ => ?_)
theorem disk_Crash.mono : ∀ a0 a1 a2 a3 k, LeO (disk_Crash.f k a0 a1 a2 a3) (disk_Crash.f (k + 1) a0 a1 a2 a3) := by
 intro a0 a1 a2 a3 k
 have ih0 := disk_Crash.mono_l k
 unfold disk_Crash.f
 repeat' with_reducible first | exact ih0 _ _ _ _ _ _ _ _ _ | exact disk_Check.mono _ _ _ _ | exact LeO.refl _ | exact LeO.none _ | refine LeO.ite ?_ ?_ | refine LeO.bind ?_ (fun _ => ?_)
def disk_Crash.T9 : Bool × List (List Nat × List Nat) := (true, [([], []), ([0], [0]), ([1], [1]), ([2], [2]), ([3], [3]), ([], []), ([5], [5]), ([6], [6]), ([7], [7]), ([4, 8], [4, 8]), ([9, 0, 1, 2, 3, 4, 5, 6, 7, 8, 9], [9])])
def disk_Crash.B9 : List Nat := [0, 1, 3, 7, 15, 0, 32, 96, 224, 511, 1023]
theorem disk_Crash.tab9 : rtab .any (opsOf Try.f23 9) = disk_Crash.T9 := by kernel_rfl
theorem disk_Crash.bits9 : waitsOk disk_Crash.T9.2 disk_Crash.B9 = true := by kernel_rfl
def disk_Crash.T10 : Bool × List (List Nat × List Nat) := (true, [([], []), ([], []), ([1], [1]), ([2], [2]), ([3], [3]), ([], []), ([5], [5]), ([6], [6]), ([7], [7]), ([4, 8], [4, 8]), ([0, 0, 1, 2, 3, 4, 5, 6, 7, 8, 9], [0]), ([10, 0, 1, 2, 3, 4, 5, 6, 7, 8, 9], [10]), ([11, 9, 0, 1, 2, 3, 4, 5, 6, 7, 8, 9], [9, 11])])
def disk_Crash.B10 : List Nat := [0, 0, 2, 6, 14, 0, 32, 96, 224, 510, 1023, 2047, 4095]
theorem disk_Crash.tab10 : rtab .any (opsOf Try.f23 10) = disk_Crash.T10 := by kernel_rfl
theorem disk_Crash.bits10 : waitsOk disk_Crash.T10.2 disk_Crash.B10 = true := by kernel_rfl
def disk_Crash.T12 : Bool × List (List Nat × List Nat) := (true, [([], []), ([0], [0]), ([1], [1]), ([2], [2]), ([], []), ([], []), ([4, 5], [4, 5]), ([6], [6]), ([], []), ([7, 8], [7, 8]), ([3, 9], [3, 9]), ([0, 0, 1, 2, 3, 4, 5, 6, 7, 8, 9, 10], [0]), ([11, 0, 1, 2, 3, 4, 5, 6, 7, 8, 9, 10], [11]), ([12, 10, 0, 1, 2, 3, 4, 5, 6, 7, 8, 9, 10], [10, 12])])
def disk_Crash.B12 : List Nat := [0, 1, 3, 7, 0, 0, 48, 112, 0, 496, 1023, 2047, 4095, 8191]
theorem disk_Crash.tab12 : rtab .any (opsOf Try.f23 12) = disk_Crash.T12 := by kernel_rfl
theorem disk_Crash.bits12 : waitsOk disk_Crash.T12.2 disk_Crash.B12 = true := by kernel_rfl
def disk_Crash.T13 : Bool × List (List Nat × List Nat) := (true, [([], []), ([], []), ([1], [1]), ([], []), ([2, 3], [2, 3]), ([4], [4]), ([5], [5]), ([], []), ([7], [7]), ([8], [8]), ([9], [9]), ([6, 10], [6, 10]), ([0, 0, 1, 2, 3, 4, 5, 6, 7, 8, 9, 10, 11], [0]), ([12, 0, 1, 2, 3, 4, 5, 6, 7, 8, 9, 10, 11], [12]), ([13, 11, 0, 1, 2, 3, 4, 5, 6, 7, 8, 9, 10, 11], [11, 13])])
def disk_Crash.B13 : List Nat := [0, 0, 2, 0, 14, 30, 62, 0, 128, 384, 896, 2046, 4095, 8191, 16383]
theorem disk_Crash.tab13 : rtab .any (opsOf Try.f23 13) = disk_Crash.T13 := by kernel_rfl
theorem disk_Crash.bits13 : waitsOk disk_Crash.T13.2 disk_Crash.B13 = true := by kernel_rfl
theorem disk_Crash.calls (k : Nat) (A0_0 : Option Addr) (c0_0 : Nat) (l0_0 : List (S71)) (a0_1 : Bool) (a0_2 : Int) (A1 : Option Addr) (c1 : Nat) (l1 : List Int) (r1 : List (S71)) (r2 : Bool) (r3 : Int) (r4 : Int) (w : World) (hr0_0 : Kd.C k71 w A0_0 l0_0.length l0_0) (hc0_0 : l0_0.length ≤ c0_0) (hr1 : Kd.C (Kd.int .i64) w A1 l1.length l1) (hc1 : l1.length ≤ c1) (h : disk_Crash.f k l0_0 a0_1 a0_2 l1 = some (r1, r2, r3, r4)) :
  Calls Try.prog 23 #[.agg #[.slice A0_0 l0_0.length c0_0, .bool a0_1, .int .i64 a0_2], .slice A1 l1.length c1] w fun e w' => ∃ v0_ : Value, e = .returned (.tuple #[.agg #[v0_, .bool r2, .int .i64 r3], .int .i64 r4]) ∧ Kd.R k71 71 w' w.heap.size (fun _ => True) v0_ r1 ∧ Below w.heap.size w w' := by
 have hu24 := Try.underlying24
 have HR0_0 := a_ hr0_0
 have HC0_0 := a_ hc0_0
 clear hr0_0 hc0_0
 have HR1 := a_ hr1
 have HC1 := a_ hc1
 clear hr1 hc1
 have HB := a_ (Below.refl w.heap.size w)
 have H : ((disk_Check.f k l0_0 a0_1 a0_2).bind fun t409 => (if t409 = 0 then ((api_File_48.f l0_0).bind fun t410 => (disk_Crash.l0 k l1 (t410.length : Int) 0 l0_0 a0_1 a0_2 t410 false (-1))) else (some (([] : List (S71)), false, 0, t409)))) = some (r1, r2, r3, r4) := h
 clear h
 obtain ⟨t409, A30, H⟩ := Option.bind_eq_some_iff.mp H
 try dsimp only at H
 have A3 := a_ A30
 clear A30
 by_cases c4 : t409 = 0
 rotate_left
 ·rw [if_neg c4] at H
  have c4b0 : (t409 == 0) = false := beq_eq_false_iff_ne.mpr c4
  have c4b1 : (t409 != 0) = true := bne_iff_ne.mpr c4
  simp only [Option.some.injEq, Prod.mk.injEq] at H
  obtain ⟨rfl, rfl, rfl, rfl⟩ := H
  go_enter Try.func23, Try.ntmps23
  go_wp2_with (first | ((with_reducible refine gd_ 2 ?_); refine bx_ 2 #[.slice A0_0 l0_0.length c0_0, .bool a0_1, .int .i64 a0_2] 24 ?_; intro gb407 hg w64 hbox hb; have BK407 := a_ (hbox); have GE407 := a_ (bs_0 hg HB); replace HB := hB_ (bl_ HB) hb; clear hb hbox hg) | ((with_reducible refine gd_ 4 ?_); refine bx_ 4 #[.slice none 0 0, .bool false, .int .i64 0] 24 ?_; intro gb408 hg w65 hbox hb; have BK408 := a_ (hbox); have GE408 := a_ (bs_1 hg HB GE407); replace HB := hB_ (bl_1 HB GE407) hb; have NB407_408 := nB_ hg BK407; have NB408_407 := nC_ hg BK407; replace BK407 := bB_ BK407 hb; clear hb hbox hg; have hnb66 := NB407_408.out; have hnc66 := NB408_407.out; obtain ⟨hcz67_0, hcz67_1, hcz67_2, hfz67_0, hfz67_1, hfz67_2⟩ := c3_ BK407) | ((with_reducible refine gk_ 37 ?_); refine gl_ (some 12) Try.func37 #[.agg #[.slice A0_0 l0_0.length c0_0, .bool a0_1, .int .i64 a0_2]] ?_; (with_reducible refine (disk_Check.calls k _ _ l0_0 a0_1 a0_2 t409 _ ?side1 ?side2 A3.out).mono ?_); (case side1 => exact cl_ (Kd.C_below HR0_0.out HB.out)); (case side2 => exact HC0_0.out); rintro e w68 ⟨rfl, hb⟩; refine ⟨_, rfl, ?_⟩; replace BK407 := bB_ BK407 hb; replace BK408 := bB_ BK408 hb; replace HB := hB_ (bl_2 HB GE407 GE408) hb; (try clear hb); obtain ⟨hcz69_0, hcz69_1, hcz69_2, hfz69_0, hfz69_1, hfz69_2⟩ := c3_ BK408))
  repeat (go_step3; try (go_wp2_with (first | ((with_reducible refine gd_ 2 ?_); refine bx_ 2 #[.slice A0_0 l0_0.length c0_0, .bool a0_1, .int .i64 a0_2] 24 ?_; intro gb407 hg w64 hbox hb; have BK407 := a_ (hbox); have GE407 := a_ (bs_0 hg HB); replace HB := hB_ (bl_ HB) hb; clear hb hbox hg) | ((with_reducible refine gd_ 4 ?_); refine bx_ 4 #[.slice none 0 0, .bool false, .int .i64 0] 24 ?_; intro gb408 hg w65 hbox hb; have BK408 := a_ (hbox); have GE408 := a_ (bs_1 hg HB GE407); replace HB := hB_ (bl_1 HB GE407) hb; have NB407_408 := nB_ hg BK407; have NB408_407 := nC_ hg BK407; replace BK407 := bB_ BK407 hb; clear hb hbox hg; have hnb66 := NB407_408.out; have hnc66 := NB408_407.out; obtain ⟨hcz67_0, hcz67_1, hcz67_2, hfz67_0, hfz67_1, hfz67_2⟩ := c3_ BK407) | ((with_reducible refine gk_ 37 ?_); refine gl_ (some 12) Try.func37 #[.agg #[.slice A0_0 l0_0.length c0_0, .bool a0_1, .int .i64 a0_2]] ?_; (with_reducible refine (disk_Check.calls k _ _ l0_0 a0_1 a0_2 t409 _ ?side1 ?side2 A3.out).mono ?_); (case side1 => exact cl_ (Kd.C_below HR0_0.out HB.out)); (case side2 => exact HC0_0.out); rintro e w68 ⟨rfl, hb⟩; refine ⟨_, rfl, ?_⟩; replace BK407 := bB_ BK407 hb; replace BK408 := bB_ BK408 hb; replace HB := hB_ (bl_2 HB GE407 GE408) hb; (try clear hb); obtain ⟨hcz69_0, hcz69_1, hcz69_2, hfz69_0, hfz69_1, hfz69_2⟩ := c3_ BK408))))
  try dsimp only [Exit.noGoto]
  refine bodyPost_ret (results_ct rfl _ _ gb408 24 #[.slice none 0 0, .bool false, .int .i64 0] (0, 0) _ rfl (bp_0 BK408) Try.underlying24 rfl (by kernel_rfl)) rfl ?_
  exact ⟨_, fz_, by first | exact Kd.R_nil _ _ _ _ _ | exact Kd.N_nil _ _ _ _ _ | exact Kd.V_nil _ _ _ _ _ | exact Kd.Q_nil _ _ _ _ _ | exact Kd.S_nil _ _ _ _ _, bl_2 HB GE407 GE408⟩


 rw [if_pos c4] at H
 have c4b0 : (t409 == 0) = true := beq_iff_eq.mpr c4
 have c4b1 : (t409 != 0) = false := bne_eq_false_iff_eq.mpr c4
 clear c4
 obtain ⟨t410, A50, H⟩ := Option.bind_eq_some_iff.mp H
 try dsimp only at H
 have A5 := a_ A50
 clear A50
 have H' := a_ H
 clear H
 go_enter Try.func23, Try.ntmps23
 go_wp2_with (first | ((with_reducible refine gd_ 2 ?_); refine bx_ 2 #[.slice A0_0 l0_0.length c0_0, .bool a0_1, .int .i64 a0_2] 24 ?_; intro gb407 hg w6 hbox hb; have BK407 := a_ (hbox); have GE407 := a_ (bs_0 hg HB); replace HB := hB_ (bl_ HB) hb; clear hb hbox hg) | ((with_reducible refine gd_ 4 ?_); refine bx_ 4 #[.slice none 0 0, .bool false, .int .i64 0] 24 ?_; intro gb408 hg w7 hbox hb; have BK408 := a_ (hbox); have GE408 := a_ (bs_1 hg HB GE407); replace HB := hB_ (bl_1 HB GE407) hb; have NB407_408 := nB_ hg BK407; have NB408_407 := nC_ hg BK407; replace BK407 := bB_ BK407 hb; clear hb hbox hg; have hnb8 := NB407_408.out; have hnc8 := NB408_407.out; obtain ⟨hcz9_0, hcz9_1, hcz9_2, hfz9_0, hfz9_1, hfz9_2⟩ := c3_ BK407) | ((with_reducible refine gk_ 37 ?_); refine gl_ (some 12) Try.func37 #[.agg #[.slice A0_0 l0_0.length c0_0, .bool a0_1, .int .i64 a0_2]] ?_; (with_reducible refine (disk_Check.calls k _ _ l0_0 a0_1 a0_2 t409 _ ?side1 ?side2 A3.out).mono ?_); (case side1 => exact cl_ (Kd.C_below HR0_0.out HB.out)); (case side2 => exact HC0_0.out); rintro e w10 ⟨rfl, hb⟩; refine ⟨_, rfl, ?_⟩; replace BK407 := bB_ BK407 hb; replace BK408 := bB_ BK408 hb; replace HB := hB_ (bl_2 HB GE407 GE408) hb; (try clear hb); obtain ⟨hcz11_0, hcz11_1, hcz11_2, hfz11_0, hfz11_1, hfz11_2⟩ := c3_ BK407) | ((with_reducible refine gk_ 48 ?_); refine gl_ (some 19) Try.func48 #[.slice A0_0 l0_0.length c0_0] ?_; (with_reducible refine (api_File_48.calls _ _ l0_0 t410 _ ?side1 ?side2 A5.out).mono ?_); (case side1 => exact cl_ (Kd.C_below HR0_0.out HB.out)); (case side2 => exact HC0_0.out); rintro e w12 ⟨v411, rfl, ho0, hb⟩; refine ⟨_, rfl, ?_⟩; have HO412 := a_ (Kd.R_lower ho0 (below_size (bl_2 HB GE407 GE408))); replace BK407 := bB_ BK407 hb; replace BK408 := bB_ BK408 hb; replace HB := hB_ (bl_2 HB GE407 GE408) hb; (try clear hb); (try clear ho0); obtain ⟨Ao13, co13, eo13⟩ := Kd.R_slice HO412.out; subst eo13) | ((with_reducible refine gd_ 7 ?_); refine bx_ 7 #[.slice none 0 0, .bool false, .int .i64 0] 24 ?_; intro gb413 hg w14 hbox hb; replace HO412 := a_ (Kd.R_below (by refine rq_ ?_; exact HO412.out) hb); have BK413 := a_ (hbox); have GE413 := a_ (bs_2 hg HB GE407 GE408); replace HB := hB_ (bl_2 HB GE407 GE408) hb; have NB407_413 := nB_ hg BK407; have NB413_407 := nC_ hg BK407; replace BK407 := bB_ BK407 hb; have NB408_413 := nB_ hg BK408; have NB413_408 := nC_ hg BK408; replace BK408 := bB_ BK408 hb; clear hb hbox hg; have hnb15 := NB413_407.out; have hnc15 := NB407_413.out; have hnb16 := NB413_408.out; have hnc16 := NB408_413.out; obtain ⟨hcz17_0, hcz17_1, hcz17_2, hfz17_0, hfz17_1, hfz17_2⟩ := c3_ BK413))
 repeat (go_step3; try (go_wp2_with (first | ((with_reducible refine gd_ 2 ?_); refine bx_ 2 #[.slice A0_0 l0_0.length c0_0, .bool a0_1, .int .i64 a0_2] 24 ?_; intro gb407 hg w6 hbox hb; have BK407 := a_ (hbox); have GE407 := a_ (bs_0 hg HB); replace HB := hB_ (bl_ HB) hb; clear hb hbox hg) | ((with_reducible refine gd_ 4 ?_); refine bx_ 4 #[.slice none 0 0, .bool false, .int .i64 0] 24 ?_; intro gb408 hg w7 hbox hb; have BK408 := a_ (hbox); have GE408 := a_ (bs_1 hg HB GE407); replace HB := hB_ (bl_1 HB GE407) hb; have NB407_408 := nB_ hg BK407; have NB408_407 := nC_ hg BK407; replace BK407 := bB_ BK407 hb; clear hb hbox hg; have hnb8 := NB407_408.out; have hnc8 := NB408_407.out; obtain ⟨hcz9_0, hcz9_1, hcz9_2, hfz9_0, hfz9_1, hfz9_2⟩ := c3_ BK407) | ((with_reducible refine gk_ 37 ?_); refine gl_ (some 12) Try.func37 #[.agg #[.slice A0_0 l0_0.length c0_0, .bool a0_1, .int .i64 a0_2]] ?_; (with_reducible refine (disk_Check.calls k _ _ l0_0 a0_1 a0_2 t409 _ ?side1 ?side2 A3.out).mono ?_); (case side1 => exact cl_ (Kd.C_below HR0_0.out HB.out)); (case side2 => exact HC0_0.out); rintro e w10 ⟨rfl, hb⟩; refine ⟨_, rfl, ?_⟩; replace BK407 := bB_ BK407 hb; replace BK408 := bB_ BK408 hb; replace HB := hB_ (bl_2 HB GE407 GE408) hb; (try clear hb); obtain ⟨hcz11_0, hcz11_1, hcz11_2, hfz11_0, hfz11_1, hfz11_2⟩ := c3_ BK407) | ((with_reducible refine gk_ 48 ?_); refine gl_ (some 19) Try.func48 #[.slice A0_0 l0_0.length c0_0] ?_; (with_reducible refine (api_File_48.calls _ _ l0_0 t410 _ ?side1 ?side2 A5.out).mono ?_); (case side1 => exact cl_ (Kd.C_below HR0_0.out HB.out)); (case side2 => exact HC0_0.out); rintro e w12 ⟨v411, rfl, ho0, hb⟩; refine ⟨_, rfl, ?_⟩; have HO412 := a_ (Kd.R_lower ho0 (below_size (bl_2 HB GE407 GE408))); replace BK407 := bB_ BK407 hb; replace BK408 := bB_ BK408 hb; replace HB := hB_ (bl_2 HB GE407 GE408) hb; (try clear hb); (try clear ho0); obtain ⟨Ao13, co13, eo13⟩ := Kd.R_slice HO412.out; subst eo13) | ((with_reducible refine gd_ 7 ?_); refine bx_ 7 #[.slice none 0 0, .bool false, .int .i64 0] 24 ?_; intro gb413 hg w14 hbox hb; replace HO412 := a_ (Kd.R_below (by refine rq_ ?_; exact HO412.out) hb); have BK413 := a_ (hbox); have GE413 := a_ (bs_2 hg HB GE407 GE408); replace HB := hB_ (bl_2 HB GE407 GE408) hb; have NB407_413 := nB_ hg BK407; have NB413_407 := nC_ hg BK407; replace BK407 := bB_ BK407 hb; have NB408_413 := nB_ hg BK408; have NB413_408 := nC_ hg BK408; replace BK408 := bB_ BK408 hb; clear hb hbox hg; have hnb15 := NB413_407.out; have hnc15 := NB407_413.out; have hnb16 := NB413_408.out; have hnc16 := NB408_413.out; obtain ⟨hcz17_0, hcz17_1, hcz17_2, hfz17_0, hfz17_1, hfz17_2⟩ := c3_ BK413))))
 go_loopg [24] k (fun kq v24 w' => ∃ (x24_1 : Int) (x414000_1 : List (S71)) (u414000 : Value), v24 = .int .i64 x24_1 ∧ Aside0 (disk_Crash.l0 kq l1 (t410.length : Int) x24_1 l0_0 a0_1 a0_2 x414000_1 false (-1) = some (r1, r2, r3, r4)) ∧ Aside0 (kq ≤ k) ∧ Aside0 (Kd.R k71 71 w' w.heap.size (fun _ => True) u414000 x414000_1) ∧ Aside0 (w'.heap[gb407]? = some (.cells #[(.slice A0_0 l0_0.length c0_0), .bool a0_1, .int .i64 a0_2] 24 (0, 0))) ∧ Aside0 (w'.heap[gb408]? = some (.cells #[(.slice none 0 0), .bool false, .int .i64 0] 24 (0, 0))) ∧ Aside0 (w'.heap[gb413]? = some (.cells #[u414000, .bool false, .int .i64 (-1)] 24 (0, 0))) ∧ Aside0 (Below w.heap.size w w'))
 case atStart => exact ⟨(0), (t410), (.slice Ao13 t410.length co13), fz_, H', ⟨Nat.le_refl _⟩, ⟨by refine rq_ ?_; exact Kd.R_mono (Kd.R_far (p := ⟨gb413, 2, none⟩) (Kd.R_far (p := ⟨gb413, 1, none⟩) (Kd.R_far (p := ⟨gb413, 0, none⟩) (Kd.R_types HO412.out BK413.out (by decide)) (fun _ hk => hk.2) (.slice Ao13 t410.length co13)) (fun _ hk => hk.2) (.bool false)) (fun _ hk => hk.2) (.int .i64 (-1))) (fun _ hk => trivial)⟩, ⟨by refine bq_ ?_; refine blk_far ?_ NB407_413.out _; refine bq_ ?_; refine blk_far ?_ NB407_413.out _; refine bq_ ?_; refine blk_far ?_ NB407_413.out _; refine bq_ ?_; exact BK407.out⟩, ⟨by refine bq_ ?_; refine blk_far ?_ NB408_413.out _; refine bq_ ?_; refine blk_far ?_ NB408_413.out _; refine bq_ ?_; refine blk_far ?_ NB408_413.out _; refine bq_ ?_; exact BK408.out⟩, ⟨by refine bq_ ?_; refine blk_put (cs := #[.slice Ao13 t410.length co13, .bool false, .int .i64 0]) ?_ 2 _ rfl; refine bq_ ?_; refine blk_put (cs := #[.slice Ao13 t410.length co13, .bool false, .int .i64 0]) ?_ 1 _ rfl; refine bq_ ?_; refine blk_put (cs := #[.slice none 0 0, .bool false, .int .i64 0]) ?_ 0 _ rfl; refine bq_ ?_; exact BK413.out⟩, ⟨bl_3 HB GE407 GE408 GE413⟩⟩
 case round =>
  clear H'
  try clear c1
  try clear c2
  try clear p2
  try clear c3
  try clear c4
  try clear c4b0
  try clear c4b1
  try clear c8
  try clear c15
  try clear c16
  obtain ⟨x24_1, x414000_1, u414000, rfl, HA, HK1, HO_414000, BK407, BK408, BK413, HB⟩ := hrel
  cases gk with
  | zero => exact absurd HA.out (by simp [disk_Crash.l0])
  | succ k1 =>
   have H := HA.out
   clear HA
   simp only [disk_Crash.l0] at H
   by_cases c18 : x24_1 < (t410.length : Int)
   rotate_left
   ·rw [if_neg c18] at H
    have c18b0 : decide (x24_1 < (t410.length : Int)) = false := decide_eq_false c18
    clear c18
    simp only [Option.some.injEq, Prod.mk.injEq] at H
    obtain ⟨rfl, rfl, rfl, rfl⟩ := H
    have hnb58 := NB413_407.out
    have hnc58 := NB407_413.out
    have hnb59 := NB413_408.out
    have hnc59 := NB408_413.out
    obtain ⟨hcz60_0, hcz60_1, hcz60_2, hfz60_0, hfz60_1, hfz60_2⟩ := c3_ BK413
    obtain ⟨Ao61, co61, eo61⟩ := Kd.R_slice HO_414000.out
    subst eo61
    have hnb62 := NB408_407.out
    have hnc62 := NB407_408.out
    obtain ⟨hcz63_0, hcz63_1, hcz63_2, hfz63_0, hfz63_1, hfz63_2⟩ := c3_ BK408
    go_wp2
    repeat (go_step3; try (go_wp2))
    try dsimp only [Exit.noGoto]
    refine bodyPost_ret (results_ct rfl _ _ gb408 24 #[.slice Ao61 x414000_1.length co61, .bool false, .int .i64 (-1)] (0, 0) _ rfl (bp_0 BK408) Try.underlying24 rfl (by kernel_rfl)) rfl ?_
    exact ⟨_, fz_, by refine rq_ ?_; exact Kd.R_mono (Kd.R_far (p := ⟨gb408, 2, none⟩) (Kd.R_far (p := ⟨gb408, 1, none⟩) (Kd.R_far (p := ⟨gb408, 0, none⟩) (Kd.R_types HO_414000.out BK408.out (by decide)) (fun _ hk => hk.2) (.slice Ao61 x414000_1.length co61)) (fun _ hk => hk.2) (.bool false)) (fun _ hk => hk.2) (.int .i64 (-1))) (fun _ hk => trivial), bl_3 HB GE407 GE408 GE413⟩
   rw [if_pos c18] at H
   have c18b0 : decide (x24_1 < (t410.length : Int)) = true := decide_eq_true c18
   clear c18
   by_cases c19 : 0 ≤ x24_1
   rotate_left
   ·rw [if_neg c19] at H
    exact absurd H (by simp)
   rw [if_pos c19] at H
   have c19b0 : decide (0 ≤ x24_1) = true := decide_eq_true c19
   clear c19
   by_cases c20 : x24_1 < (x414000_1.length : Int)
   rotate_left
   ·rw [if_neg c20] at H
    exact absurd H (by simp)
   rw [if_pos c20] at H
   have c20b0 : decide (x24_1 < (x414000_1.length : Int)) = true := decide_eq_true c20
   clear c20
   by_cases c22 : 0 ≤ ((rd_T71 x414000_1 x24_1).f2)
   rotate_left
   ·rw [if_neg c22] at H
    exact absurd H (by simp)
   rw [if_pos c22] at H
   have c22b0 := eq_true c22
   have c22b1 : decide (0 ≤ ((rd_T71 x414000_1 x24_1).f2)) = true := decide_eq_true c22
   clear c22
   by_cases c23 : ((rd_T71 x414000_1 x24_1).f2) ≤ (((rd_T71 x414000_1 x24_1).f1).size : Int)
   rotate_left
   ·rw [if_neg c23] at H
    exact absurd H (by simp)
   rw [if_pos c23] at H
   have c23b0 := eq_true c23
   have c23b1 : decide (((rd_T71 x414000_1 x24_1).f2) ≤ (((rd_T71 x414000_1 x24_1).f1).size : Int)) = true := decide_eq_true c23
   clear c23
   obtain ⟨y418, hy418⟩ : ∃ y_ : List (S71), y_ = (x414000_1.set (x24_1 : Int).toNat (⟨(rd_T71 x414000_1 x24_1).f0, ((rd_T71 x414000_1 x24_1).f1).extract 0 (((rd_T71 x414000_1 x24_1).f2) : Int).toNat, (rd_T71 x414000_1 x24_1).f2⟩ : S71)) := ⟨_, rfl⟩
   replace H : (if x24_1 ≥ (l1.length : Int) then (disk_Crash.l0 k1 l1 (t410.length : Int) (wrap64 (x24_1 + 1)) l0_0 a0_1 a0_2 y418 false (-1)) else (if x24_1 < (l1.length : Int) then (if (rd l1 x24_1) ≤ 0 then (disk_Crash.l0 k1 l1 (t410.length : Int) (wrap64 (x24_1 + 1)) l0_0 a0_1 a0_2 y418 false (-1)) else ((some (y418.set (x24_1 : Int).toNat (⟨(rd_T71 y418 x24_1).f0, (rd_T71 y418 x24_1).f1, wrap64 (((rd_T71 y418 x24_1).f2) + (mn (rd l1 x24_1) (wrap64 ((((rd_T71 x414000_1 x24_1).f1).size : Int) - ((rd_T71 x414000_1 x24_1).f2)))))⟩ : S71) : List (S71))).bind fun y422 => (if x24_1 < (l0_0.length : Int) then (if 0 ≤ ((rd_T71 y422 x24_1).f2) then (if ((rd_T71 y422 x24_1).f2) ≤ (((rd_T71 l0_0 x24_1).f1).size : Int) then (disk_Crash.l0 k1 l1 (t410.length : Int) (wrap64 (x24_1 + 1)) l0_0 a0_1 a0_2 (y422.set (x24_1 : Int).toNat (⟨(rd_T71 y422 x24_1).f0, ((rd_T71 l0_0 x24_1).f1).extract 0 (((rd_T71 y422 x24_1).f2) : Int).toNat, (rd_T71 y422 x24_1).f2⟩ : S71)) false (-1)) else (none)) else (none)) else (none)))) else (none))) = some (r1, r2, r3, r4) := by first | (rw [hy418]; with_reducible exact H) | (have H2_ := (Option.bind_some _ _).symm.trans H; rw [hy418]; with_reducible exact H2_) | (have H2_ := (Option.bind_some _ _).symm.trans H; with_reducible exact H2_) | with_reducible exact H | (rw [hy418]; exact H) | exact H
   have Ny418 := a_ hy418
   clear hy418
   by_cases c25 : x24_1 ≥ (l1.length : Int)
   ·rw [if_pos c25] at H
    have c25b0 : decide ((l1.length : Int) ≤ x24_1) = true := decide_eq_true c25
    clear c25
    have H' := a_ H
    clear H
    have hnb26 := NB413_407.out
    have hnc26 := NB407_413.out
    have hnb27 := NB413_408.out
    have hnc27 := NB408_413.out
    obtain ⟨hcz28_0, hcz28_1, hcz28_2, hfz28_0, hfz28_1, hfz28_2⟩ := c3_ BK413
    have p21 : 0 ≤ (x24_1 : Int) := od_
    have q21 : (x24_1 : Int) < ((x414000_1.length : Int) : Int) := od_
    obtain ⟨go21, co21, eo21, gb21, gl21, cl21, HG21⟩ := Kd.R_form HO_414000.out (by omega)
    (first | cases eo21 | (injection eo21 with ea_ en_ ec_; (first | subst ea_ | (injection ea_ with ea_; subst ea_)); subst ec_; clear en_))
    have GB21 := a_ gb21
    have GG21 := a_ HG21
    clear gb21 gl21 HG21
    obtain ⟨ce21, hcl21, hM21, hcc21, hfr21⟩ := Kd.R_elem HO_414000.out z71 (x24_1 : Int) p21 q21
    obtain rfl := k71_openM hM21
    have hx21_0 : wr.cell? ⟨go21, (x24_1 : Int).toNat * 3, none⟩ = some (.string ((rd_T71 x414000_1 x24_1).f0)) := hcc21 0 _ rfl
    have hx21_1 : wr.cell? ⟨go21, (x24_1 : Int).toNat * 3 + 1, none⟩ = some (.string ((rd_T71 x414000_1 x24_1).f1)) := hcc21 1 _ rfl
    have hx21_2 : wr.cell? ⟨go21, (x24_1 : Int).toNat * 3 + 2, none⟩ = some (.int .i64 ((rd_T71 x414000_1 x24_1).f2)) := hcc21 2 _ rfl
    have hf21_0 : wr.frozen? ⟨go21, (x24_1 : Int).toNat * 3, none⟩ = false := hfr21 0
    have hf21_1 : wr.frozen? ⟨go21, (x24_1 : Int).toNat * 3 + 1, none⟩ = false := hfr21 1
    have hf21_2 : wr.frozen? ⟨go21, (x24_1 : Int).toNat * 3 + 2, none⟩ = false := hfr21 2
    clear hcl21 hcc21 hfr21 hM21
    replace p21 := eq_true p21
    replace q21 := eq_true q21
    try go_wp2
    have n0_ := a_ (Kd.R_drew HO_414000.out)
    have n1_ := a_ (blk_drew BK407.out)
    have n2_ := a_ (blk_drew BK408.out)
    have n3_ := a_ (blk_drew BK413.out)
    have n4_ := a_ (below_drew1 HB.out)
    clear HO_414000
    clear BK407
    clear BK408
    clear BK413
    clear HB
    have HO_414000 := n0_
    have BK407 := n1_
    have BK408 := n2_
    have BK413 := n3_
    have HB := n4_
    clear n0_ n1_ n2_ n3_ n4_
    have p414 : 0 ≤ (x24_1 : Int) := od_
    have q414 : x24_1 < (x414000_1.length : Int) := od_
    obtain ⟨ad414, e414, hx414_0, hx414_1, hx414_2⟩ := at_T71 (Kd.R_reads' HO_414000.out).2.2 x24_1 p414 q414
    obtain rfl : (⟨go21, 0, none⟩ : Addr) = ad414 := (by injection e414)
    (first | simp only [add_plain] at hx414_0 | simp only [add_at] at hx414_0 | simp only [Addr.add, Nat.zero_add] at hx414_0 | skip)
    (first | simp only [add_plain] at hx414_1 | simp only [add_at] at hx414_1 | simp only [Addr.add, Nat.zero_add] at hx414_1 | skip)
    (first | simp only [add_plain] at hx414_2 | simp only [add_at] at hx414_2 | simp only [Addr.add, Nat.zero_add] at hx414_2 | skip)
    replace p414 := eq_true p414
    replace q414 := eq_true q414
    have p415 : 0 ≤ (x24_1 : Int) := od_
    have q415 : x24_1 < (x414000_1.length : Int) := od_
    obtain ⟨ad415, e415, hx415_0, hx415_1, hx415_2⟩ := at_T71 (Kd.R_reads' HO_414000.out).2.2 x24_1 p415 q415
    obtain rfl : (⟨go21, 0, none⟩ : Addr) = ad415 := (by injection e415)
    (first | simp only [add_plain] at hx415_0 | simp only [add_at] at hx415_0 | simp only [Addr.add, Nat.zero_add] at hx415_0 | skip)
    (first | simp only [add_plain] at hx415_1 | simp only [add_at] at hx415_1 | simp only [Addr.add, Nat.zero_add] at hx415_1 | skip)
    (first | simp only [add_plain] at hx415_2 | simp only [add_at] at hx415_2 | simp only [Addr.add, Nat.zero_add] at hx415_2 | skip)
    replace p415 := eq_true p415
    replace q415 := eq_true q415
    refine start_ (n := 11) (S := fun w' => w'.cell? ⟨go21, (x24_1).toNat * 3, none⟩ = some (.string ((rd_T71 x414000_1 x24_1).f0)) ∧ w'.cell? ⟨go21, (x24_1).toNat * 3 + 1, none⟩ = some (.string ((rd_T71 x414000_1 x24_1).f1)) ∧ w'.cell? ⟨go21, (x24_1).toNat * 3 + 2, none⟩ = some (.int .i64 ((rd_T71 x414000_1 x24_1).f2)) ∧ w'.cell? ⟨go21, (x24_1).toNat * 3, none⟩ = some (.string ((rd_T71 x414000_1 x24_1).f0)) ∧ w'.cell? ⟨go21, (x24_1).toNat * 3 + 1, none⟩ = some (.string ((rd_T71 x414000_1 x24_1).f1)) ∧ w'.cell? ⟨go21, (x24_1).toNat * 3 + 2, none⟩ = some (.int .i64 ((rd_T71 x414000_1 x24_1).f2))) (ds := []) #[false, false, false, false, false, false, false, false, false, false, false] (by kernel_rfl) rfl rfl ⟨hx414_0, hx414_1, hx414_2, hx415_0, hx415_1, hx415_2⟩ (fun hHeld => ?_); refine with_tabW disk_Crash.tab9 disk_Crash.bits9 (fun HT_ HW_ => ?_)
    generalize wr.drew = w29 at HO_414000 BK407 BK408 BK413 HB hx414_0 hx414_1 hx414_2 hx415_0 hx415_1 hx415_2 hHeld ⊢
    refine pu_ HT_ 0 (some 31) ?_
    refine pu_ HT_ 1 (some 32) ?_
    refine pu_ HT_ 2 (some 33) ?_
    refine pu_ HT_ 5 (some 36) ?_
    refine pu_ HT_ 6 (some 37) ?_
    refine pu_ HT_ 7 (some 38) ?_
    refine take_ (i := 3) (N := some 34) (v := ?_) (a' := ?_) #[true, true, true, true, false, true, true, true, false, false, false] rfl rfl (take_ofW HT_.out HW_.out (by kernel_rfl)) (fun _ _ _ h => h) (Or.inl ⟨by rfl, ?_⟩) hHeld ?_ ?_
    rotate_left
    ·rintro w' ⟨s0, s1, s2, s3, s4, s5⟩
     go_simp
     with_reducible rfl
    rotate_left
    ·exact ap_
    refine pu_ HT_ 4 (some 35) ?_
    refine take_ (i := 8) (N := some 39) (v := ?_) (a' := ?_) #[true, true, true, true, true, true, true, true, true, false, false] rfl rfl (take_ofW HT_.out HW_.out (by kernel_rfl)) (fun _ _ _ h => h) (Or.inl ⟨by rfl, ?_⟩) hHeld ?_ ?_
    rotate_left
    ·rintro w' ⟨s0, s1, s2, s3, s4, s5⟩
     go_simp
     with_reducible rfl
    rotate_left
    ·exact ap_
    refine pu_ HT_ 9 (some 40) ?_
    refine pu_ HT_ 10 (some 10) ?_
    refine done_ (done_of HT_.out (by kernel_rfl)) ?_
    try go_wp2
    have n0_ := a_ (Kd.R_drew HO_414000.out)
    have n1_ := a_ (blk_drew BK407.out)
    have n2_ := a_ (blk_drew BK408.out)
    have n3_ := a_ (blk_drew BK413.out)
    have n4_ := a_ (below_drew1 HB.out)
    clear HO_414000
    clear BK407
    clear BK408
    clear BK413
    clear HB
    have HO_414000 := n0_
    have BK407 := n1_
    have BK408 := n2_
    have BK413 := n3_
    have HB := n4_
    clear n0_ n1_ n2_ n3_ n4_
    have p416 : 0 ≤ (x24_1 : Int) := od_
    have q416 : x24_1 < (x414000_1.length : Int) := od_
    obtain ⟨ad416, e416, hx416_0, hx416_1, hx416_2⟩ := at_T71 (Kd.R_reads' HO_414000.out).2.2 x24_1 p416 q416
    obtain rfl : (⟨go21, 0, none⟩ : Addr) = ad416 := (by injection e416)
    (first | simp only [add_plain] at hx416_0 | simp only [add_at] at hx416_0 | simp only [Addr.add, Nat.zero_add] at hx416_0 | skip)
    (first | simp only [add_plain] at hx416_1 | simp only [add_at] at hx416_1 | simp only [Addr.add, Nat.zero_add] at hx416_1 | skip)
    (first | simp only [add_plain] at hx416_2 | simp only [add_at] at hx416_2 | simp only [Addr.add, Nat.zero_add] at hx416_2 | skip)
    replace p416 := eq_true p416
    replace q416 := eq_true q416
    have p417 : 0 ≤ (x24_1 : Int) := od_
    have q417 : x24_1 < (x414000_1.length : Int) := od_
    obtain ⟨ad417, e417, hx417_0, hx417_1, hx417_2⟩ := at_T71 (Kd.R_reads' HO_414000.out).2.2 x24_1 p417 q417
    obtain rfl : (⟨go21, 0, none⟩ : Addr) = ad417 := (by injection e417)
    (first | simp only [add_plain] at hx417_0 | simp only [add_at] at hx417_0 | simp only [Addr.add, Nat.zero_add] at hx417_0 | skip)
    (first | simp only [add_plain] at hx417_1 | simp only [add_at] at hx417_1 | simp only [Addr.add, Nat.zero_add] at hx417_1 | skip)
    (first | simp only [add_plain] at hx417_2 | simp only [add_at] at hx417_2 | simp only [Addr.add, Nat.zero_add] at hx417_2 | skip)
    replace p417 := eq_true p417
    replace q417 := eq_true q417
    have p24 : 0 ≤ (x24_1 : Int) := od_
    have q24 : (x24_1 : Int) < ((x414000_1.length : Int) : Int) := od_
    obtain ⟨ce24, hcl24, hM24, hcc24, hfr24⟩ := Kd.R_elem HO_414000.out z71 (x24_1 : Int) p24 q24
    obtain rfl := k71_openM hM24
    have hx24_0 : World.cell? _ ⟨go21, (x24_1 : Int).toNat * 3, none⟩ = some (.string ((rd_T71 x414000_1 x24_1).f0)) := hcc24 0 _ rfl
    have hx24_1 : World.cell? _ ⟨go21, (x24_1 : Int).toNat * 3 + 1, none⟩ = some (.string ((rd_T71 x414000_1 x24_1).f1)) := hcc24 1 _ rfl
    have hx24_2 : World.cell? _ ⟨go21, (x24_1 : Int).toNat * 3 + 2, none⟩ = some (.int .i64 ((rd_T71 x414000_1 x24_1).f2)) := hcc24 2 _ rfl
    have hf24_0 : World.frozen? _ ⟨go21, (x24_1 : Int).toNat * 3, none⟩ = false := hfr24 0
    have hf24_1 : World.frozen? _ ⟨go21, (x24_1 : Int).toNat * 3 + 1, none⟩ = false := hfr24 1
    have hf24_2 : World.frozen? _ ⟨go21, (x24_1 : Int).toNat * 3 + 2, none⟩ = false := hfr24 2
    clear hcl24 hcc24 hfr24 hM24
    replace p24 := eq_true p24
    replace q24 := eq_true q24
    obtain ⟨ce31, hcl31, hM31, hcc31, hfr31⟩ := Kd.R_elem HO_414000.out z71 (x24_1 : Int) od_ (by have h_ : (x24_1 : Int) < ((x414000_1.length : Int) : Int) := od_; first | exact h_ | (have e_ := (Kd.R_reads' HO_414000.out).1; omega) | simpa using h_)
    obtain rfl := k71_openM hM31
    have HP31 := (Kd.R_seg HO_414000.out (x24_1 : Int) od_ (by have h_ : (x24_1 : Int) < ((x414000_1.length : Int) : Int) := od_; first | exact h_ | (have e_ := (Kd.R_reads' HO_414000.out).1; omega) | simpa using h_) (seg := [.string (((rd_T71 x414000_1 x24_1).f1).extract 0 (((rd_T71 x414000_1 x24_1).f2) : Int).toNat)]) (j := 1) hcl31 hcc31 (show 2 ≤ 3 from by decide) (x' := (⟨(rd_T71 x414000_1 x24_1).f0, ((rd_T71 x414000_1 x24_1).f1).extract 0 (((rd_T71 x414000_1 x24_1).f2) : Int).toNat, (rd_T71 x414000_1 x24_1).f2⟩ : S71)) (k71_mkM _ _ _ (⟨(rd_T71 x414000_1 x24_1).f0, ((rd_T71 x414000_1 x24_1).f1).extract 0 (((rd_T71 x414000_1 x24_1).f2) : Int).toNat, (rd_T71 x414000_1 x24_1).f2⟩ : S71) ) (fun _ hk => hk)).1
    rw [← Ny418.out] at HP31
    have HQ31 := a_ HP31
    clear hcl31 hcc31 hfr31 hM31 HP31
    refine start_ (n := 13) (S := fun w' => w'.cell? ⟨go21, (x24_1).toNat * 3, none⟩ = some (.string ((rd_T71 x414000_1 x24_1).f0)) ∧ w'.cell? ⟨go21, (x24_1).toNat * 3 + 1, none⟩ = some (.string ((rd_T71 x414000_1 x24_1).f1)) ∧ w'.cell? ⟨go21, (x24_1).toNat * 3 + 2, none⟩ = some (.int .i64 ((rd_T71 x414000_1 x24_1).f2)) ∧ w'.cell? ⟨go21, (x24_1).toNat * 3, none⟩ = some (.string ((rd_T71 x414000_1 x24_1).f0)) ∧ w'.cell? ⟨go21, (x24_1).toNat * 3 + 1, none⟩ = some (.string ((rd_T71 x414000_1 x24_1).f1)) ∧ w'.cell? ⟨go21, (x24_1).toNat * 3 + 2, none⟩ = some (.int .i64 ((rd_T71 x414000_1 x24_1).f2))) (ds := [12]) #[false, false, false, false, false, false, false, false, false, false, false, false, false] (by kernel_rfl) rfl rfl ⟨hx416_0, hx416_1, hx416_2, hx417_0, hx417_1, hx417_2⟩ (fun hHeld => ?_); refine with_tabW disk_Crash.tab10 disk_Crash.bits10 (fun HT_ HW_ => ?_)
    generalize w29.drew = w30 at HO_414000 BK407 BK408 BK413 HB HQ31 hf24_0 hf24_1 hf24_2 hx24_0 hx24_1 hx24_2 hx416_0 hx416_1 hx416_2 hx417_0 hx417_1 hx417_2 hHeld ⊢
    refine pu_ HT_ 0 (some 41) ?_
    refine pu_ HT_ 1 (some 42) ?_
    refine pu_ HT_ 2 (some 43) ?_
    refine pu_ HT_ 3 (some 44) ?_
    refine pu_ HT_ 5 (some 46) ?_
    refine pu_ HT_ 6 (some 47) ?_
    refine pu_ HT_ 7 (some 48) ?_
    refine take_ (i := 4) (N := some 45) (v := ?_) (a' := ?_) #[true, true, true, true, true, true, true, true, false, false, false, false, false] rfl rfl (take_ofW HT_.out HW_.out (by kernel_rfl)) (fun _ _ _ h => h) (Or.inl ⟨by rfl, ?_⟩) hHeld ?_ ?_
    rotate_left
    ·rintro w' ⟨s0, s1, s2, s3, s4, s5⟩
     go_simp
     with_reducible rfl
    rotate_left
    ·exact ap_
    refine take_ (i := 8) (N := some 49) (v := ?_) (a' := ?_) #[true, true, true, true, true, true, true, true, true, false, false, false, false] rfl rfl (take_ofW HT_.out HW_.out (by kernel_rfl)) (fun _ _ _ h => h) (Or.inl ⟨by rfl, ?_⟩) hHeld ?_ ?_
    rotate_left
    ·rintro w' ⟨s0, s1, s2, s3, s4, s5⟩
     go_simp
     with_reducible rfl
    rotate_left
    ·exact ap_
    refine pu_ HT_ 9 (some 50) ?_
    refine pu_ HT_ 10 (some 51) ?_
    refine pu_ HT_ 11 (some 52) ?_
    refine last_ (i := 12) (N := none) #[true, true, true, true, true, true, true, true, true, true, true, true, true] rfl rfl (one_of HT_.out (by kernel_rfl)) (by decide) (fun K hK => ?_)
    refine skip_ (w1 := ?_) (by rfl) rfl ?_ ?_
    rotate_left
    ·go_simp
     rfl
    refine hK.out _ _ ?_
    clear hK K
    refine done_ (done_of HT_.out (by kernel_rfl)) ?_
    try go_wp2
    go_roundg k1
    case measure => have := HK1.out; omega
    case rel => exact ⟨(wrap64 (x24_1 + 1)), (y418), (.slice (some ⟨go21, 0, none⟩) x414000_1.length co21), fz_, H', ⟨by have := HK1.out; omega⟩, ⟨by refine rq_ ?_; exact HQ31.out⟩, ⟨by refine bq_ ?_; refine blk_far ?_ (by have h_ := Kd.R_ne HO_414000.out BK407.out (by decide); intro e_; exact h_ (by rw [e_]; rfl)) _; refine bq_ ?_; exact BK407.out⟩, ⟨by refine bq_ ?_; refine blk_far ?_ (by have h_ := Kd.R_ne HO_414000.out BK408.out (by decide); intro e_; exact h_ (by rw [e_]; rfl)) _; refine bq_ ?_; exact BK408.out⟩, ⟨by refine bq_ ?_; refine blk_far ?_ (by have h_ := Kd.R_ne HO_414000.out BK413.out (by decide); intro e_; exact h_ (by rw [e_]; rfl)) _; refine bq_ ?_; exact BK413.out⟩, ⟨bl_4 HB GB21 GE407 GE408 GE413⟩⟩
   rw [if_neg c25] at H
   have c25b0 : decide ((l1.length : Int) ≤ x24_1) = false := decide_eq_false c25
   clear c25
   by_cases c32 : x24_1 < (l1.length : Int)
   rotate_left
   ·rw [if_neg c32] at H
    exact absurd H (by simp)
   rw [if_pos c32] at H
   have c32b0 : decide (x24_1 < (l1.length : Int)) = true := decide_eq_true c32
   clear c32
   by_cases c33 : (rd l1 x24_1) ≤ 0
   ·rw [if_pos c33] at H
    have c33b0 : decide ((rd l1 x24_1) ≤ 0) = true := decide_eq_true c33
    clear c33
    have H' := a_ H
    clear H
    have hnb34 := NB413_407.out
    have hnc34 := NB407_413.out
    have hnb35 := NB413_408.out
    have hnc35 := NB408_413.out
    obtain ⟨hcz36_0, hcz36_1, hcz36_2, hfz36_0, hfz36_1, hfz36_2⟩ := c3_ BK413
    have p21 : 0 ≤ (x24_1 : Int) := od_
    have q21 : (x24_1 : Int) < ((x414000_1.length : Int) : Int) := od_
    obtain ⟨go21, co21, eo21, gb21, gl21, cl21, HG21⟩ := Kd.R_form HO_414000.out (by omega)
    (first | cases eo21 | (injection eo21 with ea_ en_ ec_; (first | subst ea_ | (injection ea_ with ea_; subst ea_)); subst ec_; clear en_))
    have GB21 := a_ gb21
    have GG21 := a_ HG21
    clear gb21 gl21 HG21
    obtain ⟨ce21, hcl21, hM21, hcc21, hfr21⟩ := Kd.R_elem HO_414000.out z71 (x24_1 : Int) p21 q21
    obtain rfl := k71_openM hM21
    have hx21_0 : wr.cell? ⟨go21, (x24_1 : Int).toNat * 3, none⟩ = some (.string ((rd_T71 x414000_1 x24_1).f0)) := hcc21 0 _ rfl
    have hx21_1 : wr.cell? ⟨go21, (x24_1 : Int).toNat * 3 + 1, none⟩ = some (.string ((rd_T71 x414000_1 x24_1).f1)) := hcc21 1 _ rfl
    have hx21_2 : wr.cell? ⟨go21, (x24_1 : Int).toNat * 3 + 2, none⟩ = some (.int .i64 ((rd_T71 x414000_1 x24_1).f2)) := hcc21 2 _ rfl
    have hf21_0 : wr.frozen? ⟨go21, (x24_1 : Int).toNat * 3, none⟩ = false := hfr21 0
    have hf21_1 : wr.frozen? ⟨go21, (x24_1 : Int).toNat * 3 + 1, none⟩ = false := hfr21 1
    have hf21_2 : wr.frozen? ⟨go21, (x24_1 : Int).toNat * 3 + 2, none⟩ = false := hfr21 2
    clear hcl21 hcc21 hfr21 hM21
    replace p21 := eq_true p21
    replace q21 := eq_true q21
    try go_wp2
    have n0_ := a_ (Kd.R_drew HO_414000.out)
    have n1_ := a_ (blk_drew BK407.out)
    have n2_ := a_ (blk_drew BK408.out)
    have n3_ := a_ (blk_drew BK413.out)
    have n4_ := a_ (below_drew1 HB.out)
    clear HO_414000
    clear BK407
    clear BK408
    clear BK413
    clear HB
    have HO_414000 := n0_
    have BK407 := n1_
    have BK408 := n2_
    have BK413 := n3_
    have HB := n4_
    clear n0_ n1_ n2_ n3_ n4_
    have p414 : 0 ≤ (x24_1 : Int) := od_
    have q414 : x24_1 < (x414000_1.length : Int) := od_
    obtain ⟨ad414, e414, hx414_0, hx414_1, hx414_2⟩ := at_T71 (Kd.R_reads' HO_414000.out).2.2 x24_1 p414 q414
    obtain rfl : (⟨go21, 0, none⟩ : Addr) = ad414 := (by injection e414)
    (first | simp only [add_plain] at hx414_0 | simp only [add_at] at hx414_0 | simp only [Addr.add, Nat.zero_add] at hx414_0 | skip)
    (first | simp only [add_plain] at hx414_1 | simp only [add_at] at hx414_1 | simp only [Addr.add, Nat.zero_add] at hx414_1 | skip)
    (first | simp only [add_plain] at hx414_2 | simp only [add_at] at hx414_2 | simp only [Addr.add, Nat.zero_add] at hx414_2 | skip)
    replace p414 := eq_true p414
    replace q414 := eq_true q414
    have p415 : 0 ≤ (x24_1 : Int) := od_
    have q415 : x24_1 < (x414000_1.length : Int) := od_
    obtain ⟨ad415, e415, hx415_0, hx415_1, hx415_2⟩ := at_T71 (Kd.R_reads' HO_414000.out).2.2 x24_1 p415 q415
    obtain rfl : (⟨go21, 0, none⟩ : Addr) = ad415 := (by injection e415)
    (first | simp only [add_plain] at hx415_0 | simp only [add_at] at hx415_0 | simp only [Addr.add, Nat.zero_add] at hx415_0 | skip)
    (first | simp only [add_plain] at hx415_1 | simp only [add_at] at hx415_1 | simp only [Addr.add, Nat.zero_add] at hx415_1 | skip)
    (first | simp only [add_plain] at hx415_2 | simp only [add_at] at hx415_2 | simp only [Addr.add, Nat.zero_add] at hx415_2 | skip)
    replace p415 := eq_true p415
    replace q415 := eq_true q415
    refine start_ (n := 11) (S := fun w' => w'.cell? ⟨go21, (x24_1).toNat * 3, none⟩ = some (.string ((rd_T71 x414000_1 x24_1).f0)) ∧ w'.cell? ⟨go21, (x24_1).toNat * 3 + 1, none⟩ = some (.string ((rd_T71 x414000_1 x24_1).f1)) ∧ w'.cell? ⟨go21, (x24_1).toNat * 3 + 2, none⟩ = some (.int .i64 ((rd_T71 x414000_1 x24_1).f2)) ∧ w'.cell? ⟨go21, (x24_1).toNat * 3, none⟩ = some (.string ((rd_T71 x414000_1 x24_1).f0)) ∧ w'.cell? ⟨go21, (x24_1).toNat * 3 + 1, none⟩ = some (.string ((rd_T71 x414000_1 x24_1).f1)) ∧ w'.cell? ⟨go21, (x24_1).toNat * 3 + 2, none⟩ = some (.int .i64 ((rd_T71 x414000_1 x24_1).f2))) (ds := []) #[false, false, false, false, false, false, false, false, false, false, false] (by kernel_rfl) rfl rfl ⟨hx414_0, hx414_1, hx414_2, hx415_0, hx415_1, hx415_2⟩ (fun hHeld => ?_); refine with_tabW disk_Crash.tab9 disk_Crash.bits9 (fun HT_ HW_ => ?_)
    generalize wr.drew = w37 at HO_414000 BK407 BK408 BK413 HB hx414_0 hx414_1 hx414_2 hx415_0 hx415_1 hx415_2 hHeld ⊢
    refine pu_ HT_ 0 (some 31) ?_
    refine pu_ HT_ 1 (some 32) ?_
    refine pu_ HT_ 2 (some 33) ?_
    refine pu_ HT_ 5 (some 36) ?_
    refine pu_ HT_ 6 (some 37) ?_
    refine pu_ HT_ 7 (some 38) ?_
    refine take_ (i := 3) (N := some 34) (v := ?_) (a' := ?_) #[true, true, true, true, false, true, true, true, false, false, false] rfl rfl (take_ofW HT_.out HW_.out (by kernel_rfl)) (fun _ _ _ h => h) (Or.inl ⟨by rfl, ?_⟩) hHeld ?_ ?_
    rotate_left
    ·rintro w' ⟨s0, s1, s2, s3, s4, s5⟩
     go_simp
     with_reducible rfl
    rotate_left
    ·exact ap_
    refine pu_ HT_ 4 (some 35) ?_
    refine take_ (i := 8) (N := some 39) (v := ?_) (a' := ?_) #[true, true, true, true, true, true, true, true, true, false, false] rfl rfl (take_ofW HT_.out HW_.out (by kernel_rfl)) (fun _ _ _ h => h) (Or.inl ⟨by rfl, ?_⟩) hHeld ?_ ?_
    rotate_left
    ·rintro w' ⟨s0, s1, s2, s3, s4, s5⟩
     go_simp
     with_reducible rfl
    rotate_left
    ·exact ap_
    refine pu_ HT_ 9 (some 40) ?_
    refine pu_ HT_ 10 (some 10) ?_
    refine done_ (done_of HT_.out (by kernel_rfl)) ?_
    try go_wp2
    have n0_ := a_ (Kd.R_drew HO_414000.out)
    have n1_ := a_ (blk_drew BK407.out)
    have n2_ := a_ (blk_drew BK408.out)
    have n3_ := a_ (blk_drew BK413.out)
    have n4_ := a_ (below_drew1 HB.out)
    clear HO_414000
    clear BK407
    clear BK408
    clear BK413
    clear HB
    have HO_414000 := n0_
    have BK407 := n1_
    have BK408 := n2_
    have BK413 := n3_
    have HB := n4_
    clear n0_ n1_ n2_ n3_ n4_
    have p416 : 0 ≤ (x24_1 : Int) := od_
    have q416 : x24_1 < (x414000_1.length : Int) := od_
    obtain ⟨ad416, e416, hx416_0, hx416_1, hx416_2⟩ := at_T71 (Kd.R_reads' HO_414000.out).2.2 x24_1 p416 q416
    obtain rfl : (⟨go21, 0, none⟩ : Addr) = ad416 := (by injection e416)
    (first | simp only [add_plain] at hx416_0 | simp only [add_at] at hx416_0 | simp only [Addr.add, Nat.zero_add] at hx416_0 | skip)
    (first | simp only [add_plain] at hx416_1 | simp only [add_at] at hx416_1 | simp only [Addr.add, Nat.zero_add] at hx416_1 | skip)
    (first | simp only [add_plain] at hx416_2 | simp only [add_at] at hx416_2 | simp only [Addr.add, Nat.zero_add] at hx416_2 | skip)
    replace p416 := eq_true p416
    replace q416 := eq_true q416
    have p417 : 0 ≤ (x24_1 : Int) := od_
    have q417 : x24_1 < (x414000_1.length : Int) := od_
    obtain ⟨ad417, e417, hx417_0, hx417_1, hx417_2⟩ := at_T71 (Kd.R_reads' HO_414000.out).2.2 x24_1 p417 q417
    obtain rfl : (⟨go21, 0, none⟩ : Addr) = ad417 := (by injection e417)
    (first | simp only [add_plain] at hx417_0 | simp only [add_at] at hx417_0 | simp only [Addr.add, Nat.zero_add] at hx417_0 | skip)
    (first | simp only [add_plain] at hx417_1 | simp only [add_at] at hx417_1 | simp only [Addr.add, Nat.zero_add] at hx417_1 | skip)
    (first | simp only [add_plain] at hx417_2 | simp only [add_at] at hx417_2 | simp only [Addr.add, Nat.zero_add] at hx417_2 | skip)
    replace p417 := eq_true p417
    replace q417 := eq_true q417
    have p24 : 0 ≤ (x24_1 : Int) := od_
    have q24 : (x24_1 : Int) < ((x414000_1.length : Int) : Int) := od_
    obtain ⟨ce24, hcl24, hM24, hcc24, hfr24⟩ := Kd.R_elem HO_414000.out z71 (x24_1 : Int) p24 q24
    obtain rfl := k71_openM hM24
    have hx24_0 : World.cell? _ ⟨go21, (x24_1 : Int).toNat * 3, none⟩ = some (.string ((rd_T71 x414000_1 x24_1).f0)) := hcc24 0 _ rfl
    have hx24_1 : World.cell? _ ⟨go21, (x24_1 : Int).toNat * 3 + 1, none⟩ = some (.string ((rd_T71 x414000_1 x24_1).f1)) := hcc24 1 _ rfl
    have hx24_2 : World.cell? _ ⟨go21, (x24_1 : Int).toNat * 3 + 2, none⟩ = some (.int .i64 ((rd_T71 x414000_1 x24_1).f2)) := hcc24 2 _ rfl
    have hf24_0 : World.frozen? _ ⟨go21, (x24_1 : Int).toNat * 3, none⟩ = false := hfr24 0
    have hf24_1 : World.frozen? _ ⟨go21, (x24_1 : Int).toNat * 3 + 1, none⟩ = false := hfr24 1
    have hf24_2 : World.frozen? _ ⟨go21, (x24_1 : Int).toNat * 3 + 2, none⟩ = false := hfr24 2
    clear hcl24 hcc24 hfr24 hM24
    replace p24 := eq_true p24
    replace q24 := eq_true q24
    obtain ⟨ce39, hcl39, hM39, hcc39, hfr39⟩ := Kd.R_elem HO_414000.out z71 (x24_1 : Int) od_ (by have h_ : (x24_1 : Int) < ((x414000_1.length : Int) : Int) := od_; first | exact h_ | (have e_ := (Kd.R_reads' HO_414000.out).1; omega) | simpa using h_)
    obtain rfl := k71_openM hM39
    have HP39 := (Kd.R_seg HO_414000.out (x24_1 : Int) od_ (by have h_ : (x24_1 : Int) < ((x414000_1.length : Int) : Int) := od_; first | exact h_ | (have e_ := (Kd.R_reads' HO_414000.out).1; omega) | simpa using h_) (seg := [.string (((rd_T71 x414000_1 x24_1).f1).extract 0 (((rd_T71 x414000_1 x24_1).f2) : Int).toNat)]) (j := 1) hcl39 hcc39 (show 2 ≤ 3 from by decide) (x' := (⟨(rd_T71 x414000_1 x24_1).f0, ((rd_T71 x414000_1 x24_1).f1).extract 0 (((rd_T71 x414000_1 x24_1).f2) : Int).toNat, (rd_T71 x414000_1 x24_1).f2⟩ : S71)) (k71_mkM _ _ _ (⟨(rd_T71 x414000_1 x24_1).f0, ((rd_T71 x414000_1 x24_1).f1).extract 0 (((rd_T71 x414000_1 x24_1).f2) : Int).toNat, (rd_T71 x414000_1 x24_1).f2⟩ : S71) ) (fun _ hk => hk)).1
    rw [← Ny418.out] at HP39
    have HQ39 := a_ HP39
    clear hcl39 hcc39 hfr39 hM39 HP39
    refine start_ (n := 13) (S := fun w' => w'.cell? ⟨go21, (x24_1).toNat * 3, none⟩ = some (.string ((rd_T71 x414000_1 x24_1).f0)) ∧ w'.cell? ⟨go21, (x24_1).toNat * 3 + 1, none⟩ = some (.string ((rd_T71 x414000_1 x24_1).f1)) ∧ w'.cell? ⟨go21, (x24_1).toNat * 3 + 2, none⟩ = some (.int .i64 ((rd_T71 x414000_1 x24_1).f2)) ∧ w'.cell? ⟨go21, (x24_1).toNat * 3, none⟩ = some (.string ((rd_T71 x414000_1 x24_1).f0)) ∧ w'.cell? ⟨go21, (x24_1).toNat * 3 + 1, none⟩ = some (.string ((rd_T71 x414000_1 x24_1).f1)) ∧ w'.cell? ⟨go21, (x24_1).toNat * 3 + 2, none⟩ = some (.int .i64 ((rd_T71 x414000_1 x24_1).f2))) (ds := [12]) #[false, false, false, false, false, false, false, false, false, false, false, false, false] (by kernel_rfl) rfl rfl ⟨hx416_0, hx416_1, hx416_2, hx417_0, hx417_1, hx417_2⟩ (fun hHeld => ?_); refine with_tabW disk_Crash.tab10 disk_Crash.bits10 (fun HT_ HW_ => ?_)
    generalize w37.drew = w38 at HO_414000 BK407 BK408 BK413 HB HQ39 hf24_0 hf24_1 hf24_2 hx24_0 hx24_1 hx24_2 hx416_0 hx416_1 hx416_2 hx417_0 hx417_1 hx417_2 hHeld ⊢
    refine pu_ HT_ 0 (some 41) ?_
    refine pu_ HT_ 1 (some 42) ?_
    refine pu_ HT_ 2 (some 43) ?_
    refine pu_ HT_ 3 (some 44) ?_
    refine pu_ HT_ 5 (some 46) ?_
    refine pu_ HT_ 6 (some 47) ?_
    refine pu_ HT_ 7 (some 48) ?_
    refine take_ (i := 4) (N := some 45) (v := ?_) (a' := ?_) #[true, true, true, true, true, true, true, true, false, false, false, false, false] rfl rfl (take_ofW HT_.out HW_.out (by kernel_rfl)) (fun _ _ _ h => h) (Or.inl ⟨by rfl, ?_⟩) hHeld ?_ ?_
    rotate_left
    ·rintro w' ⟨s0, s1, s2, s3, s4, s5⟩
     go_simp
     with_reducible rfl
    rotate_left
    ·exact ap_
    refine take_ (i := 8) (N := some 49) (v := ?_) (a' := ?_) #[true, true, true, true, true, true, true, true, true, false, false, false, false] rfl rfl (take_ofW HT_.out HW_.out (by kernel_rfl)) (fun _ _ _ h => h) (Or.inl ⟨by rfl, ?_⟩) hHeld ?_ ?_
    rotate_left
    ·rintro w' ⟨s0, s1, s2, s3, s4, s5⟩
     go_simp
     with_reducible rfl
    rotate_left
    ·exact ap_
    refine pu_ HT_ 9 (some 50) ?_
    refine pu_ HT_ 10 (some 51) ?_
    refine pu_ HT_ 11 (some 52) ?_
    refine last_ (i := 12) (N := none) #[true, true, true, true, true, true, true, true, true, true, true, true, true] rfl rfl (one_of HT_.out (by kernel_rfl)) (by decide) (fun K hK => ?_)
    refine skip_ (w1 := ?_) (by rfl) rfl ?_ ?_
    rotate_left
    ·go_simp
     rfl
    refine hK.out _ _ ?_
    clear hK K
    refine done_ (done_of HT_.out (by kernel_rfl)) ?_
    have p419 : 0 ≤ (x24_1 : Int) := od_
    have q419 : x24_1 < (l1.length : Int) := od_
    obtain ⟨ad419, e419, hx419_0⟩ := Kd.at_int HR1.out x24_1 p419 q419
    cases e419
    have hn419_0 : ad419.block ≠ go21 := Nat.ne_of_lt (Nat.lt_of_lt_of_le (by have := World.block_lt_of_cell? _ _ hx419_0; first | rwa [add_block] at this | exact this) GB21.out)
    replace hx419_0 := hc_ HB hx419_0
    replace hx419_0 := (cell_far (p := ⟨go21, (x24_1 : Int).toNat * 3 + 1, none⟩) (by first | (rw [add_block]; exact hn419_0) | (show (Addr.add _ _).block ≠ _; rw [add_block]; exact hn419_0) | exact hn419_0) (.string (((rd_T71 x414000_1 x24_1).f1).extract 0 (((rd_T71 x414000_1 x24_1).f2) : Int).toNat))).trans hx419_0
    clear hn419_0
    replace p419 := eq_true p419
    replace q419 := eq_true q419
    try go_wp2
    go_roundg k1
    case measure => have := HK1.out; omega
    case rel => exact ⟨(wrap64 (x24_1 + 1)), (y418), (.slice (some ⟨go21, 0, none⟩) x414000_1.length co21), fz_, H', ⟨by have := HK1.out; omega⟩, ⟨by refine rq_ ?_; exact HQ39.out⟩, ⟨by refine bq_ ?_; refine blk_far ?_ (by have h_ := Kd.R_ne HO_414000.out BK407.out (by decide); intro e_; exact h_ (by rw [e_]; rfl)) _; refine bq_ ?_; exact BK407.out⟩, ⟨by refine bq_ ?_; refine blk_far ?_ (by have h_ := Kd.R_ne HO_414000.out BK408.out (by decide); intro e_; exact h_ (by rw [e_]; rfl)) _; refine bq_ ?_; exact BK408.out⟩, ⟨by refine bq_ ?_; refine blk_far ?_ (by have h_ := Kd.R_ne HO_414000.out BK413.out (by decide); intro e_; exact h_ (by rw [e_]; rfl)) _; refine bq_ ?_; exact BK413.out⟩, ⟨bl_4 HB GB21 GE407 GE408 GE413⟩⟩
   rw [if_neg c33] at H
   have c33b0 : decide ((rd l1 x24_1) ≤ 0) = false := decide_eq_false c33
   clear c33
   obtain ⟨ji40, hji40⟩ : ∃ j_ : Int, (mn (rd l1 x24_1) (wrap64 ((((rd_T71 x414000_1 x24_1).f1).size : Int) - ((rd_T71 x414000_1 x24_1).f2)))) = j_ := ⟨_, rfl⟩
   replace H : ((some (y418.set (x24_1 : Int).toNat (⟨(rd_T71 y418 x24_1).f0, (rd_T71 y418 x24_1).f1, wrap64 (((rd_T71 y418 x24_1).f2) + (ji40))⟩ : S71) : List (S71))).bind fun y422 => (if x24_1 < (l0_0.length : Int) then (if 0 ≤ ((rd_T71 y422 x24_1).f2) then (if ((rd_T71 y422 x24_1).f2) ≤ (((rd_T71 l0_0 x24_1).f1).size : Int) then (disk_Crash.l0 k1 l1 (t410.length : Int) (wrap64 (x24_1 + 1)) l0_0 a0_1 a0_2 (y422.set (x24_1 : Int).toNat (⟨(rd_T71 y422 x24_1).f0, ((rd_T71 l0_0 x24_1).f1).extract 0 (((rd_T71 y422 x24_1).f2) : Int).toNat, (rd_T71 y422 x24_1).f2⟩ : S71)) false (-1)) else (none)) else (none)) else (none))) = some (r1, r2, r3, r4) := by first | (rw [hji40] at H; exact H) | (simp only [hji40] at H ⊢; exact H)
   have hji40_ : (if (wrap64 ((((rd_T71 x414000_1 x24_1).f1).size : Int) - ((rd_T71 x414000_1 x24_1).f2))) < (rd l1 x24_1) then (wrap64 ((((rd_T71 x414000_1 x24_1).f1).size : Int) - ((rd_T71 x414000_1 x24_1).f2))) else (rd l1 x24_1)) = ji40 := hji40
   obtain ⟨y422, hy422⟩ : ∃ y_ : List (S71), y_ = (y418.set (x24_1 : Int).toNat (⟨(rd_T71 y418 x24_1).f0, (rd_T71 y418 x24_1).f1, wrap64 (((rd_T71 y418 x24_1).f2) + (ji40))⟩ : S71)) := ⟨_, rfl⟩
   replace H : (if x24_1 < (l0_0.length : Int) then (if 0 ≤ ((rd_T71 y422 x24_1).f2) then (if ((rd_T71 y422 x24_1).f2) ≤ (((rd_T71 l0_0 x24_1).f1).size : Int) then (disk_Crash.l0 k1 l1 (t410.length : Int) (wrap64 (x24_1 + 1)) l0_0 a0_1 a0_2 (y422.set (x24_1 : Int).toNat (⟨(rd_T71 y422 x24_1).f0, ((rd_T71 l0_0 x24_1).f1).extract 0 (((rd_T71 y422 x24_1).f2) : Int).toNat, (rd_T71 y422 x24_1).f2⟩ : S71)) false (-1)) else (none)) else (none)) else (none)) = some (r1, r2, r3, r4) := by first | (rw [hy422]; with_reducible exact H) | (have H2_ := (Option.bind_some _ _).symm.trans H; rw [hy422]; with_reducible exact H2_) | (have H2_ := (Option.bind_some _ _).symm.trans H; with_reducible exact H2_) | with_reducible exact H | (rw [hy422]; exact H) | exact H
   have Ny422 := a_ hy422
   clear hy422
   by_cases c42 : x24_1 < (l0_0.length : Int)
   rotate_left
   ·rw [if_neg c42] at H
    exact absurd H (by simp)
   rw [if_pos c42] at H
   have c42b0 : decide (x24_1 < (l0_0.length : Int)) = true := decide_eq_true c42
   clear c42
   by_cases c43 : 0 ≤ ((rd_T71 y422 x24_1).f2)
   rotate_left
   ·rw [if_neg c43] at H
    exact absurd H (by simp)
   rw [if_pos c43] at H
   have c43b0 := eq_true c43
   have c43b1 : decide (0 ≤ ((rd_T71 y422 x24_1).f2)) = true := decide_eq_true c43
   clear c43
   by_cases c44 : ((rd_T71 y422 x24_1).f2) ≤ (((rd_T71 l0_0 x24_1).f1).size : Int)
   rotate_left
   ·rw [if_neg c44] at H
    exact absurd H (by simp)
   rw [if_pos c44] at H
   have c44b0 := eq_true c44
   have c44b1 : decide (((rd_T71 y422 x24_1).f2) ≤ (((rd_T71 l0_0 x24_1).f1).size : Int)) = true := decide_eq_true c44
   clear c44
   obtain ⟨y425, hy425⟩ : ∃ y_ : List (S71), y_ = (y422.set (x24_1 : Int).toNat (⟨(rd_T71 y422 x24_1).f0, ((rd_T71 l0_0 x24_1).f1).extract 0 (((rd_T71 y422 x24_1).f2) : Int).toNat, (rd_T71 y422 x24_1).f2⟩ : S71)) := ⟨_, rfl⟩
   replace H : (disk_Crash.l0 k1 l1 (t410.length : Int) (wrap64 (x24_1 + 1)) l0_0 a0_1 a0_2 y425 false (-1)) = some (r1, r2, r3, r4) := by first | (rw [hy425]; with_reducible exact H) | (have H2_ := (Option.bind_some _ _).symm.trans H; rw [hy425]; with_reducible exact H2_) | (have H2_ := (Option.bind_some _ _).symm.trans H; with_reducible exact H2_) | with_reducible exact H | (rw [hy425]; exact H) | exact H
   have Ny425 := a_ hy425
   clear hy425
   have H' := a_ H
   clear H
   have hnb46 := NB413_407.out
   have hnc46 := NB407_413.out
   have hnb47 := NB413_408.out
   have hnc47 := NB408_413.out
   obtain ⟨hcz48_0, hcz48_1, hcz48_2, hfz48_0, hfz48_1, hfz48_2⟩ := c3_ BK413
   have p21 : 0 ≤ (x24_1 : Int) := od_
   have q21 : (x24_1 : Int) < ((x414000_1.length : Int) : Int) := od_
   obtain ⟨go21, co21, eo21, gb21, gl21, cl21, HG21⟩ := Kd.R_form HO_414000.out (by omega)
   (first | cases eo21 | (injection eo21 with ea_ en_ ec_; (first | subst ea_ | (injection ea_ with ea_; subst ea_)); subst ec_; clear en_))
   have GB21 := a_ gb21
   have GG21 := a_ HG21
   clear gb21 gl21 HG21
   obtain ⟨ce21, hcl21, hM21, hcc21, hfr21⟩ := Kd.R_elem HO_414000.out z71 (x24_1 : Int) p21 q21
   obtain rfl := k71_openM hM21
   have hx21_0 : wr.cell? ⟨go21, (x24_1 : Int).toNat * 3, none⟩ = some (.string ((rd_T71 x414000_1 x24_1).f0)) := hcc21 0 _ rfl
   have hx21_1 : wr.cell? ⟨go21, (x24_1 : Int).toNat * 3 + 1, none⟩ = some (.string ((rd_T71 x414000_1 x24_1).f1)) := hcc21 1 _ rfl
   have hx21_2 : wr.cell? ⟨go21, (x24_1 : Int).toNat * 3 + 2, none⟩ = some (.int .i64 ((rd_T71 x414000_1 x24_1).f2)) := hcc21 2 _ rfl
   have hf21_0 : wr.frozen? ⟨go21, (x24_1 : Int).toNat * 3, none⟩ = false := hfr21 0
   have hf21_1 : wr.frozen? ⟨go21, (x24_1 : Int).toNat * 3 + 1, none⟩ = false := hfr21 1
   have hf21_2 : wr.frozen? ⟨go21, (x24_1 : Int).toNat * 3 + 2, none⟩ = false := hfr21 2
   clear hcl21 hcc21 hfr21 hM21
   replace p21 := eq_true p21
   replace q21 := eq_true q21
   try go_wp2
   have n0_ := a_ (Kd.R_drew HO_414000.out)
   have n1_ := a_ (blk_drew BK407.out)
   have n2_ := a_ (blk_drew BK408.out)
   have n3_ := a_ (blk_drew BK413.out)
   have n4_ := a_ (below_drew1 HB.out)
   clear HO_414000
   clear BK407
   clear BK408
   clear BK413
   clear HB
   have HO_414000 := n0_
   have BK407 := n1_
   have BK408 := n2_
   have BK413 := n3_
   have HB := n4_
   clear n0_ n1_ n2_ n3_ n4_
   have p414 : 0 ≤ (x24_1 : Int) := od_
   have q414 : x24_1 < (x414000_1.length : Int) := od_
   obtain ⟨ad414, e414, hx414_0, hx414_1, hx414_2⟩ := at_T71 (Kd.R_reads' HO_414000.out).2.2 x24_1 p414 q414
   obtain rfl : (⟨go21, 0, none⟩ : Addr) = ad414 := (by injection e414)
   (first | simp only [add_plain] at hx414_0 | simp only [add_at] at hx414_0 | simp only [Addr.add, Nat.zero_add] at hx414_0 | skip)
   (first | simp only [add_plain] at hx414_1 | simp only [add_at] at hx414_1 | simp only [Addr.add, Nat.zero_add] at hx414_1 | skip)
   (first | simp only [add_plain] at hx414_2 | simp only [add_at] at hx414_2 | simp only [Addr.add, Nat.zero_add] at hx414_2 | skip)
   replace p414 := eq_true p414
   replace q414 := eq_true q414
   have p415 : 0 ≤ (x24_1 : Int) := od_
   have q415 : x24_1 < (x414000_1.length : Int) := od_
   obtain ⟨ad415, e415, hx415_0, hx415_1, hx415_2⟩ := at_T71 (Kd.R_reads' HO_414000.out).2.2 x24_1 p415 q415
   obtain rfl : (⟨go21, 0, none⟩ : Addr) = ad415 := (by injection e415)
   (first | simp only [add_plain] at hx415_0 | simp only [add_at] at hx415_0 | simp only [Addr.add, Nat.zero_add] at hx415_0 | skip)
   (first | simp only [add_plain] at hx415_1 | simp only [add_at] at hx415_1 | simp only [Addr.add, Nat.zero_add] at hx415_1 | skip)
   (first | simp only [add_plain] at hx415_2 | simp only [add_at] at hx415_2 | simp only [Addr.add, Nat.zero_add] at hx415_2 | skip)
   replace p415 := eq_true p415
   replace q415 := eq_true q415
   refine start_ (n := 11) (S := fun w' => w'.cell? ⟨go21, (x24_1).toNat * 3, none⟩ = some (.string ((rd_T71 x414000_1 x24_1).f0)) ∧ w'.cell? ⟨go21, (x24_1).toNat * 3 + 1, none⟩ = some (.string ((rd_T71 x414000_1 x24_1).f1)) ∧ w'.cell? ⟨go21, (x24_1).toNat * 3 + 2, none⟩ = some (.int .i64 ((rd_T71 x414000_1 x24_1).f2)) ∧ w'.cell? ⟨go21, (x24_1).toNat * 3, none⟩ = some (.string ((rd_T71 x414000_1 x24_1).f0)) ∧ w'.cell? ⟨go21, (x24_1).toNat * 3 + 1, none⟩ = some (.string ((rd_T71 x414000_1 x24_1).f1)) ∧ w'.cell? ⟨go21, (x24_1).toNat * 3 + 2, none⟩ = some (.int .i64 ((rd_T71 x414000_1 x24_1).f2))) (ds := []) #[false, false, false, false, false, false, false, false, false, false, false] (by kernel_rfl) rfl rfl ⟨hx414_0, hx414_1, hx414_2, hx415_0, hx415_1, hx415_2⟩ (fun hHeld => ?_); refine with_tabW disk_Crash.tab9 disk_Crash.bits9 (fun HT_ HW_ => ?_)
   generalize wr.drew = w49 at HO_414000 BK407 BK408 BK413 HB hx414_0 hx414_1 hx414_2 hx415_0 hx415_1 hx415_2 hHeld ⊢
   refine pu_ HT_ 0 (some 31) ?_
   refine pu_ HT_ 1 (some 32) ?_
   refine pu_ HT_ 2 (some 33) ?_
   refine pu_ HT_ 5 (some 36) ?_
   refine pu_ HT_ 6 (some 37) ?_
   refine pu_ HT_ 7 (some 38) ?_
   refine take_ (i := 3) (N := some 34) (v := ?_) (a' := ?_) #[true, true, true, true, false, true, true, true, false, false, false] rfl rfl (take_ofW HT_.out HW_.out (by kernel_rfl)) (fun _ _ _ h => h) (Or.inl ⟨by rfl, ?_⟩) hHeld ?_ ?_
   rotate_left
   ·rintro w' ⟨s0, s1, s2, s3, s4, s5⟩
    go_simp
    with_reducible rfl
   rotate_left
   ·exact ap_
   refine pu_ HT_ 4 (some 35) ?_
   refine take_ (i := 8) (N := some 39) (v := ?_) (a' := ?_) #[true, true, true, true, true, true, true, true, true, false, false] rfl rfl (take_ofW HT_.out HW_.out (by kernel_rfl)) (fun _ _ _ h => h) (Or.inl ⟨by rfl, ?_⟩) hHeld ?_ ?_
   rotate_left
   ·rintro w' ⟨s0, s1, s2, s3, s4, s5⟩
    go_simp
    with_reducible rfl
   rotate_left
   ·exact ap_
   refine pu_ HT_ 9 (some 40) ?_
   refine pu_ HT_ 10 (some 10) ?_
   refine done_ (done_of HT_.out (by kernel_rfl)) ?_
   try go_wp2
   have n0_ := a_ (Kd.R_drew HO_414000.out)
   have n1_ := a_ (blk_drew BK407.out)
   have n2_ := a_ (blk_drew BK408.out)
   have n3_ := a_ (blk_drew BK413.out)
   have n4_ := a_ (below_drew1 HB.out)
   clear HO_414000
   clear BK407
   clear BK408
   clear BK413
   clear HB
   have HO_414000 := n0_
   have BK407 := n1_
   have BK408 := n2_
   have BK413 := n3_
   have HB := n4_
   clear n0_ n1_ n2_ n3_ n4_
   have p416 : 0 ≤ (x24_1 : Int) := od_
   have q416 : x24_1 < (x414000_1.length : Int) := od_
   obtain ⟨ad416, e416, hx416_0, hx416_1, hx416_2⟩ := at_T71 (Kd.R_reads' HO_414000.out).2.2 x24_1 p416 q416
   obtain rfl : (⟨go21, 0, none⟩ : Addr) = ad416 := (by injection e416)
   (first | simp only [add_plain] at hx416_0 | simp only [add_at] at hx416_0 | simp only [Addr.add, Nat.zero_add] at hx416_0 | skip)
   (first | simp only [add_plain] at hx416_1 | simp only [add_at] at hx416_1 | simp only [Addr.add, Nat.zero_add] at hx416_1 | skip)
   (first | simp only [add_plain] at hx416_2 | simp only [add_at] at hx416_2 | simp only [Addr.add, Nat.zero_add] at hx416_2 | skip)
   replace p416 := eq_true p416
   replace q416 := eq_true q416
   have p417 : 0 ≤ (x24_1 : Int) := od_
   have q417 : x24_1 < (x414000_1.length : Int) := od_
   obtain ⟨ad417, e417, hx417_0, hx417_1, hx417_2⟩ := at_T71 (Kd.R_reads' HO_414000.out).2.2 x24_1 p417 q417
   obtain rfl : (⟨go21, 0, none⟩ : Addr) = ad417 := (by injection e417)
   (first | simp only [add_plain] at hx417_0 | simp only [add_at] at hx417_0 | simp only [Addr.add, Nat.zero_add] at hx417_0 | skip)
   (first | simp only [add_plain] at hx417_1 | simp only [add_at] at hx417_1 | simp only [Addr.add, Nat.zero_add] at hx417_1 | skip)
   (first | simp only [add_plain] at hx417_2 | simp only [add_at] at hx417_2 | simp only [Addr.add, Nat.zero_add] at hx417_2 | skip)
   replace p417 := eq_true p417
   replace q417 := eq_true q417
   have p24 : 0 ≤ (x24_1 : Int) := od_
   have q24 : (x24_1 : Int) < ((x414000_1.length : Int) : Int) := od_
   obtain ⟨ce24, hcl24, hM24, hcc24, hfr24⟩ := Kd.R_elem HO_414000.out z71 (x24_1 : Int) p24 q24
   obtain rfl := k71_openM hM24
   have hx24_0 : World.cell? _ ⟨go21, (x24_1 : Int).toNat * 3, none⟩ = some (.string ((rd_T71 x414000_1 x24_1).f0)) := hcc24 0 _ rfl
   have hx24_1 : World.cell? _ ⟨go21, (x24_1 : Int).toNat * 3 + 1, none⟩ = some (.string ((rd_T71 x414000_1 x24_1).f1)) := hcc24 1 _ rfl
   have hx24_2 : World.cell? _ ⟨go21, (x24_1 : Int).toNat * 3 + 2, none⟩ = some (.int .i64 ((rd_T71 x414000_1 x24_1).f2)) := hcc24 2 _ rfl
   have hf24_0 : World.frozen? _ ⟨go21, (x24_1 : Int).toNat * 3, none⟩ = false := hfr24 0
   have hf24_1 : World.frozen? _ ⟨go21, (x24_1 : Int).toNat * 3 + 1, none⟩ = false := hfr24 1
   have hf24_2 : World.frozen? _ ⟨go21, (x24_1 : Int).toNat * 3 + 2, none⟩ = false := hfr24 2
   clear hcl24 hcc24 hfr24 hM24
   replace p24 := eq_true p24
   replace q24 := eq_true q24
   obtain ⟨ce51, hcl51, hM51, hcc51, hfr51⟩ := Kd.R_elem HO_414000.out z71 (x24_1 : Int) od_ (by have h_ : (x24_1 : Int) < ((x414000_1.length : Int) : Int) := od_; first | exact h_ | (have e_ := (Kd.R_reads' HO_414000.out).1; omega) | simpa using h_)
   obtain rfl := k71_openM hM51
   have HP51 := (Kd.R_seg HO_414000.out (x24_1 : Int) od_ (by have h_ : (x24_1 : Int) < ((x414000_1.length : Int) : Int) := od_; first | exact h_ | (have e_ := (Kd.R_reads' HO_414000.out).1; omega) | simpa using h_) (seg := [.string (((rd_T71 x414000_1 x24_1).f1).extract 0 (((rd_T71 x414000_1 x24_1).f2) : Int).toNat)]) (j := 1) hcl51 hcc51 (show 2 ≤ 3 from by decide) (x' := (⟨(rd_T71 x414000_1 x24_1).f0, ((rd_T71 x414000_1 x24_1).f1).extract 0 (((rd_T71 x414000_1 x24_1).f2) : Int).toNat, (rd_T71 x414000_1 x24_1).f2⟩ : S71)) (k71_mkM _ _ _ (⟨(rd_T71 x414000_1 x24_1).f0, ((rd_T71 x414000_1 x24_1).f1).extract 0 (((rd_T71 x414000_1 x24_1).f2) : Int).toNat, (rd_T71 x414000_1 x24_1).f2⟩ : S71) ) (fun _ hk => hk)).1
   rw [← Ny418.out] at HP51
   have HQ51 := a_ HP51
   clear hcl51 hcc51 hfr51 hM51 HP51
   refine start_ (n := 13) (S := fun w' => w'.cell? ⟨go21, (x24_1).toNat * 3, none⟩ = some (.string ((rd_T71 x414000_1 x24_1).f0)) ∧ w'.cell? ⟨go21, (x24_1).toNat * 3 + 1, none⟩ = some (.string ((rd_T71 x414000_1 x24_1).f1)) ∧ w'.cell? ⟨go21, (x24_1).toNat * 3 + 2, none⟩ = some (.int .i64 ((rd_T71 x414000_1 x24_1).f2)) ∧ w'.cell? ⟨go21, (x24_1).toNat * 3, none⟩ = some (.string ((rd_T71 x414000_1 x24_1).f0)) ∧ w'.cell? ⟨go21, (x24_1).toNat * 3 + 1, none⟩ = some (.string ((rd_T71 x414000_1 x24_1).f1)) ∧ w'.cell? ⟨go21, (x24_1).toNat * 3 + 2, none⟩ = some (.int .i64 ((rd_T71 x414000_1 x24_1).f2))) (ds := [12]) #[false, false, false, false, false, false, false, false, false, false, false, false, false] (by kernel_rfl) rfl rfl ⟨hx416_0, hx416_1, hx416_2, hx417_0, hx417_1, hx417_2⟩ (fun hHeld => ?_); refine with_tabW disk_Crash.tab10 disk_Crash.bits10 (fun HT_ HW_ => ?_)
   generalize w49.drew = w50 at HO_414000 BK407 BK408 BK413 HB HQ51 hf24_0 hf24_1 hf24_2 hx24_0 hx24_1 hx24_2 hx416_0 hx416_1 hx416_2 hx417_0 hx417_1 hx417_2 hHeld ⊢
   refine pu_ HT_ 0 (some 41) ?_
   refine pu_ HT_ 1 (some 42) ?_
   refine pu_ HT_ 2 (some 43) ?_
   refine pu_ HT_ 3 (some 44) ?_
   refine pu_ HT_ 5 (some 46) ?_
   refine pu_ HT_ 6 (some 47) ?_
   refine pu_ HT_ 7 (some 48) ?_
   refine take_ (i := 4) (N := some 45) (v := ?_) (a' := ?_) #[true, true, true, true, true, true, true, true, false, false, false, false, false] rfl rfl (take_ofW HT_.out HW_.out (by kernel_rfl)) (fun _ _ _ h => h) (Or.inl ⟨by rfl, ?_⟩) hHeld ?_ ?_
   rotate_left
   ·rintro w' ⟨s0, s1, s2, s3, s4, s5⟩
    go_simp
    with_reducible rfl
   rotate_left
   ·exact ap_
   refine take_ (i := 8) (N := some 49) (v := ?_) (a' := ?_) #[true, true, true, true, true, true, true, true, true, false, false, false, false] rfl rfl (take_ofW HT_.out HW_.out (by kernel_rfl)) (fun _ _ _ h => h) (Or.inl ⟨by rfl, ?_⟩) hHeld ?_ ?_
   rotate_left
   ·rintro w' ⟨s0, s1, s2, s3, s4, s5⟩
    go_simp
    with_reducible rfl
   rotate_left
   ·exact ap_
   refine pu_ HT_ 9 (some 50) ?_
   refine pu_ HT_ 10 (some 51) ?_
   refine pu_ HT_ 11 (some 52) ?_
   refine last_ (i := 12) (N := none) #[true, true, true, true, true, true, true, true, true, true, true, true, true] rfl rfl (one_of HT_.out (by kernel_rfl)) (by decide) (fun K hK => ?_)
   refine skip_ (w1 := ?_) (by rfl) rfl ?_ ?_
   rotate_left
   ·go_simp
    rfl
   refine hK.out _ _ ?_
   clear hK K
   refine done_ (done_of HT_.out (by kernel_rfl)) ?_
   have p419 : 0 ≤ (x24_1 : Int) := od_
   have q419 : x24_1 < (l1.length : Int) := od_
   obtain ⟨ad419, e419, hx419_0⟩ := Kd.at_int HR1.out x24_1 p419 q419
   cases e419
   have hn419_0 : ad419.block ≠ go21 := Nat.ne_of_lt (Nat.lt_of_lt_of_le (by have := World.block_lt_of_cell? _ _ hx419_0; first | rwa [add_block] at this | exact this) GB21.out)
   replace hx419_0 := hc_ HB hx419_0
   replace hx419_0 := (cell_far (p := ⟨go21, (x24_1 : Int).toNat * 3 + 1, none⟩) (by first | (rw [add_block]; exact hn419_0) | (show (Addr.add _ _).block ≠ _; rw [add_block]; exact hn419_0) | exact hn419_0) (.string (((rd_T71 x414000_1 x24_1).f1).extract 0 (((rd_T71 x414000_1 x24_1).f2) : Int).toNat))).trans hx419_0
   clear hn419_0
   replace p419 := eq_true p419
   replace q419 := eq_true q419
   try go_wp2
   have n0_ : Aside0 (Kd.R k71 71 (w50.setCell ⟨go21, (x24_1 : Int).toNat * 3 + 1, none⟩ (.string (((rd_T71 x414000_1 x24_1).f1).extract 0 (((rd_T71 x414000_1 x24_1).f2) : Int).toNat))) w.heap.size (fun _ => True) (.slice (some ⟨go21, 0, none⟩) x414000_1.length co21) y418) := ⟨by refine rq_ ?_; exact HQ51.out⟩
   have n1_ : Aside0 ((w50.setCell ⟨go21, (x24_1 : Int).toNat * 3 + 1, none⟩ (.string (((rd_T71 x414000_1 x24_1).f1).extract 0 (((rd_T71 x414000_1 x24_1).f2) : Int).toNat))).heap[gb407]? = some (.cells #[.slice A0_0 l0_0.length c0_0, .bool a0_1, .int .i64 a0_2] 24 (0, 0))) := ⟨by refine bq_ ?_; refine blk_far ?_ (by have h_ := Kd.R_ne HO_414000.out BK407.out (by decide); intro e_; exact h_ (by rw [e_]; rfl)) _; refine bq_ ?_; exact BK407.out⟩
   have n2_ : Aside0 ((w50.setCell ⟨go21, (x24_1 : Int).toNat * 3 + 1, none⟩ (.string (((rd_T71 x414000_1 x24_1).f1).extract 0 (((rd_T71 x414000_1 x24_1).f2) : Int).toNat))).heap[gb408]? = some (.cells #[.slice none 0 0, .bool false, .int .i64 0] 24 (0, 0))) := ⟨by refine bq_ ?_; refine blk_far ?_ (by have h_ := Kd.R_ne HO_414000.out BK408.out (by decide); intro e_; exact h_ (by rw [e_]; rfl)) _; refine bq_ ?_; exact BK408.out⟩
   have n3_ : Aside0 ((w50.setCell ⟨go21, (x24_1 : Int).toNat * 3 + 1, none⟩ (.string (((rd_T71 x414000_1 x24_1).f1).extract 0 (((rd_T71 x414000_1 x24_1).f2) : Int).toNat))).heap[gb413]? = some (.cells #[.slice (some ⟨go21, 0, none⟩) x414000_1.length co21, .bool false, .int .i64 (-1)] 24 (0, 0))) := ⟨by refine bq_ ?_; refine blk_far ?_ (by have h_ := Kd.R_ne HO_414000.out BK413.out (by decide); intro e_; exact h_ (by rw [e_]; rfl)) _; refine bq_ ?_; exact BK413.out⟩
   have n4_ : Aside0 (Below w.heap.size w (w50.setCell ⟨go21, (x24_1 : Int).toNat * 3 + 1, none⟩ (.string (((rd_T71 x414000_1 x24_1).f1).extract 0 (((rd_T71 x414000_1 x24_1).f2) : Int).toNat)))) := ⟨bl_4 HB GB21 GE407 GE408 GE413⟩
   (try clear HO_414000)
   (try clear BK407)
   (try clear BK408)
   (try clear BK413)
   (try clear HB)
   generalize (w50.setCell ⟨go21, (x24_1 : Int).toNat * 3 + 1, none⟩ (.string (((rd_T71 x414000_1 x24_1).f1).extract 0 (((rd_T71 x414000_1 x24_1).f2) : Int).toNat))) = w52 at n0_ n1_ n2_ n3_ n4_ ⊢
   have HO_414000 := n0_
   have BK407 := n1_
   have BK408 := n2_
   have BK413 := n3_
   have HB := n4_
   clear n0_ n1_ n2_ n3_ n4_
   have n0_ := a_ (Kd.R_drew HO_414000.out)
   have n1_ := a_ (blk_drew BK407.out)
   have n2_ := a_ (blk_drew BK408.out)
   have n3_ := a_ (blk_drew BK413.out)
   have n4_ := a_ (below_drew1 HB.out)
   clear HO_414000
   clear BK407
   clear BK408
   clear BK413
   clear HB
   have HO_414000 := n0_
   have BK407 := n1_
   have BK408 := n2_
   have BK413 := n3_
   have HB := n4_
   clear n0_ n1_ n2_ n3_ n4_
   have p420 : 0 ≤ (x24_1 : Int) := od_
   have q420 : x24_1 < (y418.length : Int) := (by have h_ : (x24_1 : Int) < ((x414000_1.length : Int) : Int) := od_; first | (have e_ := (Kd.R_reads' HO_414000.out).1; omega) | simpa only [Ny418.out, List.length_set] using h_)
   have ql420 : ((x24_1 : Int) < ((x414000_1.length : Int) : Int)) = True := eq_true od_
   obtain ⟨ad420, e420, hx420_0, hx420_1, hx420_2⟩ := at_T71 (Kd.R_reads' HO_414000.out).2.2 x24_1 p420 q420
   obtain rfl : (⟨go21, 0, none⟩ : Addr) = ad420 := (by injection e420)
   (first | simp only [add_plain] at hx420_0 | simp only [add_at] at hx420_0 | simp only [Addr.add, Nat.zero_add] at hx420_0 | skip)
   (first | simp only [add_plain] at hx420_1 | simp only [add_at] at hx420_1 | simp only [Addr.add, Nat.zero_add] at hx420_1 | skip)
   (first | simp only [add_plain] at hx420_2 | simp only [add_at] at hx420_2 | simp only [Addr.add, Nat.zero_add] at hx420_2 | skip)
   replace p420 := eq_true p420
   replace q420 := eq_true q420
   have p421 : 0 ≤ (x24_1 : Int) := od_
   have q421 : x24_1 < (l1.length : Int) := od_
   obtain ⟨ad421, e421, hx421_0⟩ := Kd.at_int HR1.out x24_1 p421 q421
   have hw421_0 := hx421_0
   obtain rfl : ad419 = ad421 := (by injection e421)
   replace hx421_0 := hc_ HB hx421_0
   replace p421 := eq_true p421
   replace q421 := eq_true q421
   have p41 : 0 ≤ (x24_1 : Int) := od_
   have q41 : (x24_1 : Int) < ((x414000_1.length : Int) : Int) := od_
   obtain ⟨ce41, hcl41, hM41, hcc41, hfr41⟩ := Kd.R_elem HO_414000.out z71 (x24_1 : Int) p41 q41
   obtain rfl := k71_openM hM41
   have hx41_0 : World.cell? _ ⟨go21, (x24_1 : Int).toNat * 3, none⟩ = some (.string ((rd_T71 y418 x24_1).f0)) := hcc41 0 _ rfl
   have hx41_1 : World.cell? _ ⟨go21, (x24_1 : Int).toNat * 3 + 1, none⟩ = some (.string ((rd_T71 y418 x24_1).f1)) := hcc41 1 _ rfl
   have hx41_2 : World.cell? _ ⟨go21, (x24_1 : Int).toNat * 3 + 2, none⟩ = some (.int .i64 ((rd_T71 y418 x24_1).f2)) := hcc41 2 _ rfl
   have hf41_0 : World.frozen? _ ⟨go21, (x24_1 : Int).toNat * 3, none⟩ = false := hfr41 0
   have hf41_1 : World.frozen? _ ⟨go21, (x24_1 : Int).toNat * 3 + 1, none⟩ = false := hfr41 1
   have hf41_2 : World.frozen? _ ⟨go21, (x24_1 : Int).toNat * 3 + 2, none⟩ = false := hfr41 2
   clear hcl41 hcc41 hfr41 hM41
   replace p41 := eq_true p41
   replace q41 := eq_true q41
   obtain ⟨ce54, hcl54, hM54, hcc54, hfr54⟩ := Kd.R_elem HO_414000.out z71 (x24_1 : Int) od_ (by have h_ : (x24_1 : Int) < ((x414000_1.length : Int) : Int) := od_; first | exact h_ | (have e_ := (Kd.R_reads' HO_414000.out).1; omega) | simpa using h_)
   obtain rfl := k71_openM hM54
   have HP54 := (Kd.R_seg HO_414000.out (x24_1 : Int) od_ (by have h_ : (x24_1 : Int) < ((x414000_1.length : Int) : Int) := od_; first | exact h_ | (have e_ := (Kd.R_reads' HO_414000.out).1; omega) | simpa using h_) (seg := [.int .i64 (wrap64 (((rd_T71 y418 x24_1).f2) + (ji40)))]) (j := 2) hcl54 hcc54 (show 3 ≤ 3 from by decide) (x' := (⟨(rd_T71 y418 x24_1).f0, (rd_T71 y418 x24_1).f1, wrap64 (((rd_T71 y418 x24_1).f2) + (ji40))⟩ : S71)) (k71_mkM _ _ _ (⟨(rd_T71 y418 x24_1).f0, (rd_T71 y418 x24_1).f1, wrap64 (((rd_T71 y418 x24_1).f2) + (ji40))⟩ : S71) ) (fun _ hk => hk)).1
   rw [← Ny422.out] at HP54
   have HQ54 := a_ HP54
   clear hcl54 hcc54 hfr54 hM54 HP54
   refine start_ (n := 14) (S := fun w' => w'.cell? ⟨go21, (x24_1).toNat * 3, none⟩ = some (.string ((rd_T71 y418 x24_1).f0)) ∧ w'.cell? ⟨go21, (x24_1).toNat * 3 + 1, none⟩ = some (.string ((rd_T71 y418 x24_1).f1)) ∧ w'.cell? ⟨go21, (x24_1).toNat * 3 + 2, none⟩ = some (.int .i64 ((rd_T71 y418 x24_1).f2)) ∧ w'.cell? (ad419.add (x24_1).toNat) = some (.int .i64 (rd l1 x24_1))) (ds := [13]) #[false, false, false, false, false, false, false, false, false, false, false, false, false, false] (by kernel_rfl) rfl rfl ⟨hx420_0, hx420_1, hx420_2, ((HB.out.cell (World.block_lt_of_cell? w _ hw421_0)).trans hw421_0)⟩ (fun hHeld => ?_); refine with_tabW disk_Crash.tab12 disk_Crash.bits12 (fun HT_ HW_ => ?_)
   generalize w52.drew = w53 at HO_414000 BK407 BK408 BK413 HB HQ51 HQ54 hf41_0 hf41_1 hf41_2 hx41_0 hx41_1 hx41_2 hx420_0 hx420_1 hx420_2 hx421_0 hHeld ⊢
   refine pu_ HT_ 0 (some 64) ?_
   refine pu_ HT_ 1 (some 65) ?_
   refine pu_ HT_ 2 (some 66) ?_
   refine pu_ HT_ 4 (some 68) ?_
   refine pu_ HT_ 5 (some 69) ?_
   refine pu_ HT_ 6 (some 70) ?_
   refine pu_ HT_ 8 (some 72) ?_
   refine take_ (i := 3) (N := some 67) (v := ?_) (a' := ?_) #[true, true, true, true, true, true, true, false, true, false, false, false, false, false] rfl rfl (take_ofW HT_.out HW_.out (by kernel_rfl)) (fun _ _ _ h => h) (Or.inl ⟨by rfl, ?_⟩) hHeld ?_ ?_
   rotate_left
   ·rintro w' ⟨s0, s1, s2, s3⟩
    go_simp
    with_reducible rfl
   rotate_left
   ·exact ap_
   refine take_ (i := 7) (N := some 71) (v := ?_) (a' := ?_) #[true, true, true, true, true, true, true, true, true, false, false, false, false, false] rfl rfl (take_ofW HT_.out HW_.out (by kernel_rfl)) (fun _ _ _ h => h) (Or.inl ⟨by rfl, ?_⟩) hHeld ?_ ?_
   rotate_left
   ·rintro w' ⟨s0, s1, s2, s3⟩
    go_simp
    with_reducible rfl
   rotate_left
   ·exact ap_
   refine pu_ HT_ 9 (some 73) ?_
   refine pu_ HT_ 10 (some 74) ?_
   refine pu_ HT_ 11 (some 75) ?_
   refine pu_ HT_ 12 (some 76) ?_
   refine last_ (i := 13) (N := none) #[true, true, true, true, true, true, true, true, true, true, true, true, true, true] rfl rfl (one_of HT_.out (by kernel_rfl)) (by decide) (fun K hK => ?_)
   refine skip_ (w1 := ?_) (by rfl) rfl ?_ ?_
   rotate_left
   ·go_simp
    rfl
   refine hK.out _ _ ?_
   clear hK K
   refine done_ (done_of HT_.out (by kernel_rfl)) ?_
   try go_wp2
   have n0_ : Aside0 (Kd.R k71 71 (w53.setCell ⟨go21, (x24_1 : Int).toNat * 3 + 2, none⟩ (.int .i64 (wrap64 (((rd_T71 y418 x24_1).f2) + (ji40))))) w.heap.size (fun _ => True) (.slice (some ⟨go21, 0, none⟩) x414000_1.length co21) y422) := ⟨by refine rq_ ?_; exact HQ54.out⟩
   have n1_ : Aside0 ((w53.setCell ⟨go21, (x24_1 : Int).toNat * 3 + 2, none⟩ (.int .i64 (wrap64 (((rd_T71 y418 x24_1).f2) + (ji40))))).heap[gb407]? = some (.cells #[.slice A0_0 l0_0.length c0_0, .bool a0_1, .int .i64 a0_2] 24 (0, 0))) := ⟨by refine bq_ ?_; refine blk_far ?_ (by have h_ := Kd.R_ne HO_414000.out BK407.out (by decide); intro e_; exact h_ (by rw [e_]; rfl)) _; refine bq_ ?_; exact BK407.out⟩
   have n2_ : Aside0 ((w53.setCell ⟨go21, (x24_1 : Int).toNat * 3 + 2, none⟩ (.int .i64 (wrap64 (((rd_T71 y418 x24_1).f2) + (ji40))))).heap[gb408]? = some (.cells #[.slice none 0 0, .bool false, .int .i64 0] 24 (0, 0))) := ⟨by refine bq_ ?_; refine blk_far ?_ (by have h_ := Kd.R_ne HO_414000.out BK408.out (by decide); intro e_; exact h_ (by rw [e_]; rfl)) _; refine bq_ ?_; exact BK408.out⟩
   have n3_ : Aside0 ((w53.setCell ⟨go21, (x24_1 : Int).toNat * 3 + 2, none⟩ (.int .i64 (wrap64 (((rd_T71 y418 x24_1).f2) + (ji40))))).heap[gb413]? = some (.cells #[.slice (some ⟨go21, 0, none⟩) x414000_1.length co21, .bool false, .int .i64 (-1)] 24 (0, 0))) := ⟨by refine bq_ ?_; refine blk_far ?_ (by have h_ := Kd.R_ne HO_414000.out BK413.out (by decide); intro e_; exact h_ (by rw [e_]; rfl)) _; refine bq_ ?_; exact BK413.out⟩
   have n4_ : Aside0 (Below w.heap.size w (w53.setCell ⟨go21, (x24_1 : Int).toNat * 3 + 2, none⟩ (.int .i64 (wrap64 (((rd_T71 y418 x24_1).f2) + (ji40)))))) := ⟨bl_4 HB GB21 GE407 GE408 GE413⟩
   (try clear HO_414000)
   (try clear BK407)
   (try clear BK408)
   (try clear BK413)
   (try clear HB)
   generalize (w53.setCell ⟨go21, (x24_1 : Int).toNat * 3 + 2, none⟩ (.int .i64 (wrap64 (((rd_T71 y418 x24_1).f2) + (ji40))))) = w55 at n0_ n1_ n2_ n3_ n4_ ⊢
   have HO_414000 := n0_
   have BK407 := n1_
   have BK408 := n2_
   have BK413 := n3_
   have HB := n4_
   clear n0_ n1_ n2_ n3_ n4_
   have n0_ := a_ (Kd.R_drew HO_414000.out)
   have n1_ := a_ (blk_drew BK407.out)
   have n2_ := a_ (blk_drew BK408.out)
   have n3_ := a_ (blk_drew BK413.out)
   have n4_ := a_ (below_drew1 HB.out)
   clear HO_414000
   clear BK407
   clear BK408
   clear BK413
   clear HB
   have HO_414000 := n0_
   have BK407 := n1_
   have BK408 := n2_
   have BK413 := n3_
   have HB := n4_
   clear n0_ n1_ n2_ n3_ n4_
   have p423 : 0 ≤ (x24_1 : Int) := od_
   have q423 : x24_1 < (l0_0.length : Int) := od_
   obtain ⟨ad423, e423, hx423_0, hx423_1, hx423_2⟩ := at_T71 HR0_0.out x24_1 p423 q423
   have hw423_2 := hx423_2
   have hw423_1 := hx423_1
   have hw423_0 := hx423_0
   cases e423
   replace hx423_0 := hc_ HB hx423_0
   replace hx423_1 := hc_ HB hx423_1
   replace hx423_2 := hc_ HB hx423_2
   replace p423 := eq_true p423
   replace q423 := eq_true q423
   have p424 : 0 ≤ (x24_1 : Int) := od_
   have q424 : x24_1 < (y422.length : Int) := (by have h_ : (x24_1 : Int) < ((x414000_1.length : Int) : Int) := od_; first | (have e_ := (Kd.R_reads' HO_414000.out).1; omega) | simpa only [Ny418.out, Ny422.out, List.length_set] using h_)
   have ql424 : ((x24_1 : Int) < ((x414000_1.length : Int) : Int)) = True := eq_true od_
   obtain ⟨ad424, e424, hx424_0, hx424_1, hx424_2⟩ := at_T71 (Kd.R_reads' HO_414000.out).2.2 x24_1 p424 q424
   obtain rfl : (⟨go21, 0, none⟩ : Addr) = ad424 := (by injection e424)
   (first | simp only [add_plain] at hx424_0 | simp only [add_at] at hx424_0 | simp only [Addr.add, Nat.zero_add] at hx424_0 | skip)
   (first | simp only [add_plain] at hx424_1 | simp only [add_at] at hx424_1 | simp only [Addr.add, Nat.zero_add] at hx424_1 | skip)
   (first | simp only [add_plain] at hx424_2 | simp only [add_at] at hx424_2 | simp only [Addr.add, Nat.zero_add] at hx424_2 | skip)
   replace p424 := eq_true p424
   replace q424 := eq_true q424
   have p45 : 0 ≤ (x24_1 : Int) := od_
   have q45 : (x24_1 : Int) < ((x414000_1.length : Int) : Int) := od_
   obtain ⟨ce45, hcl45, hM45, hcc45, hfr45⟩ := Kd.R_elem HO_414000.out z71 (x24_1 : Int) p45 q45
   obtain rfl := k71_openM hM45
   have hx45_0 : World.cell? _ ⟨go21, (x24_1 : Int).toNat * 3, none⟩ = some (.string ((rd_T71 y422 x24_1).f0)) := hcc45 0 _ rfl
   have hx45_1 : World.cell? _ ⟨go21, (x24_1 : Int).toNat * 3 + 1, none⟩ = some (.string ((rd_T71 y422 x24_1).f1)) := hcc45 1 _ rfl
   have hx45_2 : World.cell? _ ⟨go21, (x24_1 : Int).toNat * 3 + 2, none⟩ = some (.int .i64 ((rd_T71 y422 x24_1).f2)) := hcc45 2 _ rfl
   have hf45_0 : World.frozen? _ ⟨go21, (x24_1 : Int).toNat * 3, none⟩ = false := hfr45 0
   have hf45_1 : World.frozen? _ ⟨go21, (x24_1 : Int).toNat * 3 + 1, none⟩ = false := hfr45 1
   have hf45_2 : World.frozen? _ ⟨go21, (x24_1 : Int).toNat * 3 + 2, none⟩ = false := hfr45 2
   clear hcl45 hcc45 hfr45 hM45
   replace p45 := eq_true p45
   replace q45 := eq_true q45
   obtain ⟨ce57, hcl57, hM57, hcc57, hfr57⟩ := Kd.R_elem HO_414000.out z71 (x24_1 : Int) od_ (by have h_ : (x24_1 : Int) < ((x414000_1.length : Int) : Int) := od_; first | exact h_ | (have e_ := (Kd.R_reads' HO_414000.out).1; omega) | simpa using h_)
   obtain rfl := k71_openM hM57
   have HP57 := (Kd.R_seg HO_414000.out (x24_1 : Int) od_ (by have h_ : (x24_1 : Int) < ((x414000_1.length : Int) : Int) := od_; first | exact h_ | (have e_ := (Kd.R_reads' HO_414000.out).1; omega) | simpa using h_) (seg := [.string (((rd_T71 l0_0 x24_1).f1).extract 0 (((rd_T71 y422 x24_1).f2) : Int).toNat)]) (j := 1) hcl57 hcc57 (show 2 ≤ 3 from by decide) (x' := (⟨(rd_T71 y422 x24_1).f0, ((rd_T71 l0_0 x24_1).f1).extract 0 (((rd_T71 y422 x24_1).f2) : Int).toNat, (rd_T71 y422 x24_1).f2⟩ : S71)) (k71_mkM _ _ _ (⟨(rd_T71 y422 x24_1).f0, ((rd_T71 l0_0 x24_1).f1).extract 0 (((rd_T71 y422 x24_1).f2) : Int).toNat, (rd_T71 y422 x24_1).f2⟩ : S71) ) (fun _ hk => hk)).1
   rw [← Ny425.out] at HP57
   have HQ57 := a_ HP57
   clear hcl57 hcc57 hfr57 hM57 HP57
   refine start_ (n := 15) (S := fun w' => w'.cell? ⟨gb407, 0, none⟩ = some (.slice (some ad423) l0_0.length c0_0) ∧ w'.cell? ⟨gb407, 1, none⟩ = some (.bool a0_1) ∧ w'.cell? ⟨gb407, 2, none⟩ = some (.int .i64 a0_2) ∧ w'.cell? (ad423.add ((x24_1).toNat * 3)) = some (.string ((rd_T71 l0_0 x24_1).f0)) ∧ w'.cell? ⟨(ad423.add ((x24_1).toNat * 3)).block, (ad423.add ((x24_1).toNat * 3)).off + 1, none⟩ = some (.string ((rd_T71 l0_0 x24_1).f1)) ∧ w'.cell? ⟨(ad423.add ((x24_1).toNat * 3)).block, (ad423.add ((x24_1).toNat * 3)).off + 2, none⟩ = some (.int .i64 ((rd_T71 l0_0 x24_1).f2)) ∧ w'.cell? ⟨go21, (x24_1).toNat * 3, none⟩ = some (.string ((rd_T71 y422 x24_1).f0)) ∧ w'.cell? ⟨go21, (x24_1).toNat * 3 + 1, none⟩ = some (.string ((rd_T71 y422 x24_1).f1)) ∧ w'.cell? ⟨go21, (x24_1).toNat * 3 + 2, none⟩ = some (.int .i64 ((rd_T71 y422 x24_1).f2))) (ds := [14]) #[false, false, false, false, false, false, false, false, false, false, false, false, false, false, false] (by kernel_rfl) rfl rfl ⟨(blk_cell BK407.out 0).trans rfl, (blk_cell BK407.out 1).trans rfl, (blk_cell BK407.out 2).trans rfl, ((HB.out.cell (World.block_lt_of_cell? w _ hw423_0)).trans hw423_0), ((HB.out.cell (World.block_lt_of_cell? w _ hw423_1)).trans hw423_1), ((HB.out.cell (World.block_lt_of_cell? w _ hw423_2)).trans hw423_2), hx424_0, hx424_1, hx424_2⟩ (fun hHeld => ?_); refine with_tabW disk_Crash.tab13 disk_Crash.bits13 (fun HT_ HW_ => ?_)
   generalize w55.drew = w56 at HO_414000 BK407 BK408 BK413 HB HQ54 HQ57 hf45_0 hf45_1 hf45_2 hx423_0 hx423_1 hx423_2 hx424_0 hx424_1 hx424_2 hx45_0 hx45_1 hx45_2 hHeld ⊢
   refine pu_ HT_ 0 (some 77) ?_
   refine pu_ HT_ 1 (some 78) ?_
   refine pu_ HT_ 3 (some 80) ?_
   refine pu_ HT_ 7 (some 84) ?_
   refine pu_ HT_ 8 (some 85) ?_
   refine pu_ HT_ 9 (some 86) ?_
   refine take_ (i := 2) (N := some 79) (v := ?_) (a' := ?_) #[true, true, true, true, false, false, false, true, true, true, false, false, false, false, false] rfl rfl (take_ofW HT_.out HW_.out (by kernel_rfl)) (fun _ _ _ h => h) (Or.inl ⟨by rfl, ?_⟩) hHeld ?_ ?_
   rotate_left
   ·rintro w' ⟨s0, s1, s2, s3, s4, s5, s6, s7, s8⟩
    go_simp
    with_reducible rfl
   rotate_left
   ·exact ap_
   refine pu_ HT_ 4 (some 81) ?_
   refine pu_ HT_ 5 (some 82) ?_
   refine take_ (i := 6) (N := some 83) (v := ?_) (a' := ?_) #[true, true, true, true, true, true, true, true, true, true, false, false, false, false, false] rfl rfl (take_ofW HT_.out HW_.out (by kernel_rfl)) (fun _ _ _ h => h) (Or.inl ⟨by rfl, ?_⟩) hHeld ?_ ?_
   rotate_left
   ·rintro w' ⟨s0, s1, s2, s3, s4, s5, s6, s7, s8⟩
    go_simp
    with_reducible rfl
   rotate_left
   ·exact ap_
   refine take_ (i := 10) (N := some 87) (v := ?_) (a' := ?_) #[true, true, true, true, true, true, true, true, true, true, true, false, false, false, false] rfl rfl (take_ofW HT_.out HW_.out (by kernel_rfl)) (fun _ _ _ h => h) (Or.inl ⟨by rfl, ?_⟩) hHeld ?_ ?_
   rotate_left
   ·rintro w' ⟨s0, s1, s2, s3, s4, s5, s6, s7, s8⟩
    go_simp
    with_reducible rfl
   rotate_left
   ·exact ap_
   refine pu_ HT_ 11 (some 88) ?_
   refine pu_ HT_ 12 (some 89) ?_
   refine pu_ HT_ 13 (some 90) ?_
   refine last_ (i := 14) (N := none) #[true, true, true, true, true, true, true, true, true, true, true, true, true, true, true] rfl rfl (one_of HT_.out (by kernel_rfl)) (by decide) (fun K hK => ?_)
   refine skip_ (w1 := ?_) (by rfl) rfl ?_ ?_
   rotate_left
   ·go_simp
    rfl
   refine hK.out _ _ ?_
   clear hK K
   refine done_ (done_of HT_.out (by kernel_rfl)) ?_
   try go_wp2
   go_roundg k1
   case measure => have := HK1.out; omega
   case rel => exact ⟨(wrap64 (x24_1 + 1)), (y425), (.slice (some ⟨go21, 0, none⟩) x414000_1.length co21), fz_, H', ⟨by have := HK1.out; omega⟩, ⟨by refine rq_ ?_; exact HQ57.out⟩, ⟨by refine bq_ ?_; refine blk_far ?_ (by have h_ := Kd.R_ne HO_414000.out BK407.out (by decide); intro e_; exact h_ (by rw [e_]; rfl)) _; refine bq_ ?_; exact BK407.out⟩, ⟨by refine bq_ ?_; refine blk_far ?_ (by have h_ := Kd.R_ne HO_414000.out BK408.out (by decide); intro e_; exact h_ (by rw [e_]; rfl)) _; refine bq_ ?_; exact BK408.out⟩, ⟨by refine bq_ ?_; refine blk_far ?_ (by have h_ := Kd.R_ne HO_414000.out BK413.out (by decide); intro e_; exact h_ (by rw [e_]; rfl)) _; refine bq_ ?_; exact BK413.out⟩, ⟨bl_4 HB GB21 GE407 GE408 GE413⟩⟩end Go.Proofs.Ytpigjmjbfpipnaa.PE
