-- Written for this claim by a program of this session. Lean checks it.
import Derived.Test.YtpigjmjbfpipnaaPCx0
import Derived.Test.YtpigjmjbfpipnaaPCx7
import Derived.Test.YtpigjmjbfpipnaaPCx8
import Derived.Test.YtpigjmjbfpipnaaPCx9
import Derived.Test.YtpigjmjbfpipnaaPCx10
namespace Go.Proofs.Ytpigjmjbfpipnaa.PC
open Go.RowKit Go.Proofs.YtpigjmjbfpipnaaW.PrintWords Go.Proofs.YtpigjmjbfpipnaaW.PrintLast Go.Proofs.YtpigjmjbfpipnaaW.PrintMore Go.Proofs.Ytpigjmjbfpipnaa.Sh Go.Proofs.Ytpigjmjbfpipnaa.Op
attribute [local go_sem] max2_int min2_int max_two min_two max_three min_three max_four min_four   -- for this text's walks alone
set_option linter.unusedVariables false
set_option linter.unusedSimpArgs false

/-! ### disk_done: function 96 -/
def disk_done.j0 : Nat → Int → List (S71) → Bool → Int → Int → ByteArray → ByteArray → ByteArray → Int → Option ((List (S71)) × Bool × Int × Int)
 | 0, _, _, _, _, _, _, _, _, _ => none
 | k + 1, x8, x307000, x307001, x307002, x308000, x308001, x308002, x308003, x308004 => if x307002 = 0 then (none) else (if x307002 > 0 then (none) else (if 0 ≤ x8 then (if x8 < (x307000.length : Int) then (if x308000 = 1 then (some ((x307000.set (x8 : Int).toNat (⟨(rd_T71 x307000 x8).f0, (rd_T71 x307000 x8).f1, (((rd_T71 x307000 x8).f1).size : Int)⟩ : S71)), x307001, x307002, 0)) else (if x308000 = 2 then (none) else (if x308000 = 4 then (none) else (if x308000 = 3 then ((api_File_109.f x307000 x8 (wrap64 (x8 + 1))).bind fun t328 => ((disk_place.f k t328 x307001 x307002 x308002).bind fun bt331 => (if bt331.2 = true then (none) else ((api_File_108.f t328 bt331.1 (([(⟨x308002, (rd_T71 x307000 x8).f1, (rd_T71 x307000 x8).f2⟩ : S71)] : List (S71)))).bind fun t336 => (some (t336, x307001, x307002, 0)))))) else (some (x307000, x307001, x307002, 0)))))) else (none)) else (none)))
def disk_done.f (k : Nat) (l0_0 : List (S71)) (a0_1 : Bool) (a0_2 : Int) (a1_0 : Int) (a1_1 : ByteArray) (a1_2 : ByteArray) (a1_3 : ByteArray) (a1_4 : Int) : Option ((List (S71)) × Bool × Int × Int) := (disk_Check.f k l0_0 a0_1 a0_2).bind fun t309 => (if t309 = 0 then ((api_File_48.f l0_0).bind fun t310 => (if a0_1 = true then (none) else ((disk_change_refused.f k a1_0 a1_1 a1_2 a1_3 a1_4 t310 a0_1 a0_2).bind fun t313 => (if t313 = 0 then ((disk_place.f k t310 a0_1 a0_2 a1_1).bind fun bt314 => (if a1_0 = 0 then (if bt314.2 = true then (none) else ((api_File_108.f t310 bt314.1 (([(⟨a1_1, (⟨#[]⟩ : ByteArray), 0⟩ : S71)] : List (S71)))).bind fun t319 => (if 0 ≤ bt314.1 then (if bt314.1 < (t319.length : Int) then (if ((rd_T71 t319 bt314.1).f1).size + a1_3.size ≤ 9223372036854775807 then (disk_done.j0 k bt314.1 (t319.set (bt314.1 : Int).toNat (⟨(rd_T71 t319 bt314.1).f0, ((rd_T71 t319 bt314.1).f1) ++ a1_3, (rd_T71 t319 bt314.1).f2⟩ : S71)) a0_1 a0_2 a1_0 a1_1 a1_2 a1_3 a1_4) else (none)) else (none)) else (none)))) else (disk_done.j0 k bt314.1 t310 a0_1 a0_2 a1_0 a1_1 a1_2 a1_3 a1_4))) else (none))))) else (none))
theorem disk_done.mono_l : ∀ k, (∀ y0 y1 y2 y3 y4 y5 y6 y7 y8, LeO (disk_done.j0 k y0 y1 y2 y3 y4 y5 y6 y7 y8) (disk_done.j0 (k + 1) y0 y1 y2 y3 y4 y5 y6 y7 y8))
 | 0 => fun _ _ _ _ _ _ _ _ _ r h => by simp [disk_done.j0] at h
 | k + 1 => by
  have ih0 := disk_done.mono_l k
  ·intro y0 y1 y2 y3 y4 y5 y6 y7 y8
   unfold disk_done.j0
   repeat' first | (with_reducible first | exact ih0 _ _ _ _ _ _ _ _ _ | exact disk_Check.mono _ _ _ _ | exact disk_change_refused.mono _ _ _ _ _ _ _ _ _ | exact disk_place.mono _ _ _ _ _ | exact LeO.refl _ | exact LeO.none _ | refine LeO.ite ?_ ?_ | refine LeO.bind ?_ (fun _ => ?_)) | exact ih0 _ _ _ _ _ _ _ _ _ | exact disk_Check.mono _ _ _ _ | exact disk_change_refused.mono _ _ _ _ _ _ _ _ _ | exact disk_place.mono _ _ _ _ _ | exact LeO.none _ | refine LeO.ite ?_ ?_ | refine LeO.bind ?_ (fun _ => ?_)
theorem disk_done.mono : ∀ a0 a1 a2 a3 a4 a5 a6 a7 k, LeO (disk_done.f k a0 a1 a2 a3 a4 a5 a6 a7) (disk_done.f (k + 1) a0 a1 a2 a3 a4 a5 a6 a7) := by
 intro a0 a1 a2 a3 a4 a5 a6 a7 k
 have ih0 := disk_done.mono_l k
 unfold disk_done.f
 repeat' first | (with_reducible first | exact ih0 _ _ _ _ _ _ _ _ _ | exact disk_Check.mono _ _ _ _ | exact disk_change_refused.mono _ _ _ _ _ _ _ _ _ | exact disk_place.mono _ _ _ _ _ | exact LeO.refl _ | exact LeO.none _ | refine LeO.ite ?_ ?_ | refine LeO.bind ?_ (fun _ => ?_)) | exact ih0 _ _ _ _ _ _ _ _ _ | exact disk_Check.mono _ _ _ _ | exact disk_change_refused.mono _ _ _ _ _ _ _ _ _ | exact disk_place.mono _ _ _ _ _ | exact LeO.none _ | refine LeO.ite ?_ ?_ | refine LeO.bind ?_ (fun _ => ?_)
def disk_done.T14 : Bool × List (List Nat × List Nat) := (true, [([], []), ([0], [0]), ([], []), ([1, 2], [1, 2]), ([3], [3]), ([4], [4]), ([], []), ([6], [6]), ([5, 7], [5, 7]), ([1, 2, 0, 1, 2, 3, 4, 5, 6, 7, 8], [1, 2]), ([9, 0, 1, 2, 3, 4, 5, 6, 7, 8], [9]), ([10, 8, 0, 1, 2, 3, 4, 5, 6, 7, 8], [8, 10])])
def disk_done.B14 : List Nat := [0, 1, 0, 7, 15, 31, 0, 64, 255, 511, 1023, 2047]
theorem disk_done.tab14 : rtab .any (opsOf Try.f96 14) = disk_done.T14 := by kernel_rfl
theorem disk_done.bits14 : waitsOk disk_done.T14.2 disk_done.B14 = true := by kernel_rfl
set_option maxHeartbeats 80000000 in
set_option maxRecDepth 100000 in
theorem disk_done.calls (k : Nat) (A0_0 : Option Addr) (c0_0 : Nat) (l0_0 : List (S71)) (a0_1 : Bool) (a0_2 : Int) (a1_0 : Int) (a1_1 : ByteArray) (a1_2 : ByteArray) (a1_3 : ByteArray) (a1_4 : Int) (r1 : List (S71)) (r2 : Bool) (r3 : Int) (r4 : Int) (w : World) (hr0_0 : Kd.C k71 w A0_0 l0_0.length l0_0) (hc0_0 : l0_0.length ≤ c0_0) (h : disk_done.f k l0_0 a0_1 a0_2 a1_0 a1_1 a1_2 a1_3 a1_4 = some (r1, r2, r3, r4)) :
  Calls Try.prog 96 #[.agg #[.slice A0_0 l0_0.length c0_0, .bool a0_1, .int .i64 a0_2], .agg #[.int .u8 a1_0, .string a1_1, .string a1_2, .string a1_3, .int .i64 a1_4]] w fun e w' => ∃ v0_ : Value, e = .returned (.tuple #[.agg #[v0_, .bool r2, .int .i64 r3], .int .i64 r4]) ∧ Kd.R k71 71 w' w.heap.size (fun _ => True) v0_ r1 ∧ Below w.heap.size w w' := by
 have hu24 := Try.underlying24
 have hu115 := Try.underlying115
 have hu71 := Try.underlying71
 have HR0_0 := Aside0.mk hr0_0
 have HC0_0 := Aside0.mk hc0_0
 clear hr0_0 hc0_0
 have HB := Aside0.mk (Below.refl w.heap.size w)
 have H : ((disk_Check.f k l0_0 a0_1 a0_2).bind fun t309 => (if t309 = 0 then ((api_File_48.f l0_0).bind fun t310 => (if a0_1 = true then (none) else ((disk_change_refused.f k a1_0 a1_1 a1_2 a1_3 a1_4 t310 a0_1 a0_2).bind fun t313 => (if t313 = 0 then ((disk_place.f k t310 a0_1 a0_2 a1_1).bind fun bt314 => (if a1_0 = 0 then (if bt314.2 = true then (none) else ((api_File_108.f t310 bt314.1 (([(⟨a1_1, (⟨#[]⟩ : ByteArray), 0⟩ : S71)] : List (S71)))).bind fun t319 => (if 0 ≤ bt314.1 then (if bt314.1 < (t319.length : Int) then (if ((rd_T71 t319 bt314.1).f1).size + a1_3.size ≤ 9223372036854775807 then (disk_done.j0 k bt314.1 (t319.set (bt314.1 : Int).toNat (⟨(rd_T71 t319 bt314.1).f0, ((rd_T71 t319 bt314.1).f1) ++ a1_3, (rd_T71 t319 bt314.1).f2⟩ : S71)) a0_1 a0_2 a1_0 a1_1 a1_2 a1_3 a1_4) else (none)) else (none)) else (none)))) else (disk_done.j0 k bt314.1 t310 a0_1 a0_2 a1_0 a1_1 a1_2 a1_3 a1_4))) else (none))))) else (none))) = some (r1, r2, r3, r4) := h
 clear h
 obtain ⟨t309, A30, H⟩ := Option.bind_eq_some_iff.mp H
 try dsimp only at H
 have A3 := Aside0.mk A30
 clear A30
 by_cases c4 : t309 = 0
 rotate_left
 ·rw [if_neg c4] at H
  exact absurd H (by simp)


 rw [if_pos c4] at H
 have c4b0 : (t309 == 0) = true := beq_iff_eq.mpr c4
 have c4b1 : (t309 != 0) = false := bne_eq_false_iff_eq.mpr c4
 clear c4
 obtain ⟨t310, A50, H⟩ := Option.bind_eq_some_iff.mp H
 try dsimp only at H
 have A5 := Aside0.mk A50
 clear A50
 by_cases c6 : a0_1 = true
 ·subst c6
  have H1 : (none) = some (r1, r2, r3, r4) := by rw [if_pos rfl] at H; exact H
  clear H
  have H := H1
  clear H1
  exact absurd H (by simp)
 replace c6 := Bool.eq_false_iff.mpr c6
 subst c6
 have H1 : ((disk_change_refused.f k a1_0 a1_1 a1_2 a1_3 a1_4 t310 false a0_2).bind fun t313 => (if t313 = 0 then ((disk_place.f k t310 false a0_2 a1_1).bind fun bt314 => (if a1_0 = 0 then (if bt314.2 = true then (none) else ((api_File_108.f t310 bt314.1 (([(⟨a1_1, (⟨#[]⟩ : ByteArray), 0⟩ : S71)] : List (S71)))).bind fun t319 => (if 0 ≤ bt314.1 then (if bt314.1 < (t319.length : Int) then (if ((rd_T71 t319 bt314.1).f1).size + a1_3.size ≤ 9223372036854775807 then (disk_done.j0 k bt314.1 (t319.set (bt314.1 : Int).toNat (⟨(rd_T71 t319 bt314.1).f0, ((rd_T71 t319 bt314.1).f1) ++ a1_3, (rd_T71 t319 bt314.1).f2⟩ : S71)) false a0_2 a1_0 a1_1 a1_2 a1_3 a1_4) else (none)) else (none)) else (none)))) else (disk_done.j0 k bt314.1 t310 false a0_2 a1_0 a1_1 a1_2 a1_3 a1_4))) else (none))) = some (r1, r2, r3, r4) := by rw [if_neg (show ¬ (false = true) by decide)] at H; exact H
 clear H
 have H := H1
 clear H1
 obtain ⟨t313, A70, H⟩ := Option.bind_eq_some_iff.mp H
 try dsimp only at H
 have A7 := Aside0.mk A70
 clear A70
 by_cases c8 : t313 = 0
 rotate_left
 ·rw [if_neg c8] at H
  exact absurd H (by simp)
 rw [if_pos c8] at H
 have c8b0 : (t313 == 0) = true := beq_iff_eq.mpr c8
 have c8b1 : (t313 != 0) = false := bne_eq_false_iff_eq.mpr c8
 clear c8
 obtain ⟨⟨t314, t315⟩, A90, H⟩ := Option.bind_eq_some_iff.mp H
 try dsimp only at H
 have A9 := Aside0.mk A90
 clear A90
 have HC10 := Aside0.mk H
 clear H
 go_enter Try.func96, Try.ntmps96
 go_upto_if 43 with (first | ((with_reducible refine gate_dst (N := 2) rfl ?_); refine bx_ 2 #[.slice A0_0 l0_0.length c0_0, .bool false, .int .i64 a0_2] 24 ?_; intro gb306 hg w11 hbox hb; have BK306 := Aside0.mk (hbox); have GE306 := Aside0.mk (bs_0 hg HB); replace HB := Aside0.mk (below_step (bl_ HB) hb); clear hb hbox hg) | ((with_reducible refine gate_dst (N := 3) rfl ?_); refine bx_ 3 #[.int .u8 a1_0, .string a1_1, .string a1_2, .string a1_3, .int .i64 a1_4] 115 ?_; intro gb307 hg w12 hbox hb; have BK307 := Aside0.mk (hbox); have GE307 := Aside0.mk (bs_1 hg HB GE306); replace HB := Aside0.mk (below_step (bl_1 HB GE306) hb); have NB306_307 := Aside0.mk (nb_ hg BK306); have NB307_306 := Aside0.mk (nc_ hg BK306); replace BK306 := Aside0.mk (bb_ BK306 hb); clear hb hbox hg) | ((with_reducible refine gate_dst (N := 4) rfl ?_); refine bx_ 4 #[.slice none 0 0, .bool false, .int .i64 0] 24 ?_; intro gb308 hg w13 hbox hb; have BK308 := Aside0.mk (hbox); have GE308 := Aside0.mk (bs_2 hg HB GE306 GE307); replace HB := Aside0.mk (below_step (bl_2 HB GE306 GE307) hb); have NB306_308 := Aside0.mk (nb_ hg BK306); have NB308_306 := Aside0.mk (nc_ hg BK306); replace BK306 := Aside0.mk (bb_ BK306 hb); have NB307_308 := Aside0.mk (nb_ hg BK307); have NB308_307 := Aside0.mk (nc_ hg BK307); replace BK307 := Aside0.mk (bb_ BK307 hb); clear hb hbox hg; have hnb14 := NB306_307.out; have hnc14 := NB307_306.out; have hnb15 := NB306_308.out; have hnc15 := NB308_306.out; obtain ⟨hcz16_0, hcz16_1, hcz16_2, hfz16_0, hfz16_1, hfz16_2⟩ := c3_ BK306) | ((with_reducible refine gate_callee (f := 37) rfl ?_); refine goesL_ (some 15) rfl rfl Try.func37 (by kernel_rfl) rfl #[.agg #[.slice A0_0 l0_0.length c0_0, .bool false, .int .i64 a0_2]] rfl (ar_) ?_; (with_reducible refine (disk_Check.calls k _ _ l0_0 false a0_2 t309 _ ?side1 ?side2 A3.out).mono ?_); (case side1 => exact cl_ (Kd.C_below HR0_0.out HB.out)); (case side2 => exact HC0_0.out); rintro e w17 ⟨rfl, hb⟩; refine ⟨_, rfl, ?_⟩; replace BK306 := Aside0.mk (bb_ BK306 hb); replace BK307 := Aside0.mk (bb_ BK307 hb); replace BK308 := Aside0.mk (bb_ BK308 hb); replace HB := Aside0.mk (below_step (bl_3 HB GE306 GE307 GE308) hb); (try clear hb); obtain ⟨hcz18_0, hcz18_1, hcz18_2, hfz18_0, hfz18_1, hfz18_2⟩ := c3_ BK306) | ((with_reducible refine gate_callee (f := 48) rfl ?_); refine goesL_ (some 22) rfl rfl Try.func48 (by kernel_rfl) rfl #[.slice A0_0 l0_0.length c0_0] rfl (ar_) ?_; (with_reducible refine (api_File_48.calls _ _ l0_0 t310 _ ?side1 ?side2 A5.out).mono ?_); (case side1 => exact cl_ (Kd.C_below HR0_0.out HB.out)); (case side2 => exact HC0_0.out); rintro e w19 ⟨v311, rfl, ho0, hb⟩; refine ⟨_, rfl, ?_⟩; have HO312 := Aside0.mk (Kd.R_lower ho0 (below_size (bl_3 HB GE306 GE307 GE308))); replace BK306 := Aside0.mk (bb_ BK306 hb); replace BK307 := Aside0.mk (bb_ BK307 hb); replace BK308 := Aside0.mk (bb_ BK308 hb); replace HB := Aside0.mk (below_step (bl_3 HB GE306 GE307 GE308) hb); (try clear hb); (try clear ho0); obtain ⟨Ao20, co20, eo20⟩ := Kd.R_slice HO312.out; subst eo20; obtain ⟨hcz21_0, hcz21_1, hcz21_2, hfz21_0, hfz21_1, hfz21_2⟩ := c3_ BK306; have hnb22 := NB307_308.out; have hnc22 := NB308_307.out; obtain ⟨hcz23_0, hcz23_1, hcz23_2, hcz23_3, hcz23_4, hfz23_0, hfz23_1, hfz23_2, hfz23_3, hfz23_4⟩ := c5_ BK307) | ((with_reducible refine gate_callee (f := 107) rfl ?_); refine goesL_ (some 29) rfl rfl Try.func107 (by kernel_rfl) rfl #[.agg #[.int .u8 a1_0, .string a1_1, .string a1_2, .string a1_3, .int .i64 a1_4], .agg #[.slice Ao20 t310.length co20, .bool false, .int .i64 a0_2]] rfl (ar_) ?_; (with_reducible refine (disk_change_refused.calls k a1_0 a1_1 a1_2 a1_3 a1_4 _ _ t310 false a0_2 t313 _ ?side1 ?side2 A7.out).mono ?_); (case side1 => refine (Kd.R_reads' (e := 71) (base := w.heap.size) (ok := fun k_ => True) (n := t310.length) (c := co20) ?_).2.2; exact (by (with_reducible repeat (first | apply Kd.R_alloc | apply Kd.R_drewN | apply Kd.R_drew)); exact (Kd.R_mono (Kd.R_far (p := ⟨gb306, 0, none⟩) (Kd.R_types HO312.out BK306.out (by decide)) (fun _ hk => hk.2) (.slice Ao20 t310.length co20)) (fun _ h_ => h_.1)))); (case side2 => exact (Kd.R_reads' HO312.out).2.1); rintro e w24 ⟨rfl, hb⟩; refine ⟨_, rfl, ?_⟩; replace HO312 := Aside0.mk (Kd.R_below (by (with_reducible repeat (first | apply Kd.R_alloc | apply Kd.R_drewN | apply Kd.R_drew)); exact (Kd.R_mono (Kd.R_far (p := ⟨gb306, 0, none⟩) (Kd.R_types HO312.out BK306.out (by decide)) (fun _ hk => hk.2) (.slice Ao20 t310.length co20)) (fun _ h_ => h_.1))) hb); replace BK306 := Aside0.mk (blk_below (g := gb306) (o := .cells #[.slice Ao20 t310.length co20, .bool false, .int .i64 a0_2] 24 (0, 0)) (bp_0 BK306) hb); replace BK307 := Aside0.mk (blk_below (g := gb307) (o := .cells #[.int .u8 a1_0, .string a1_1, .string a1_2, .string a1_3, .int .i64 a1_4] 115 (0, 0)) (bp_1 BK307 NB307_306) hb); replace BK308 := Aside0.mk (blk_below (g := gb308) (o := .cells #[.slice none 0 0, .bool false, .int .i64 0] 24 (0, 0)) (bp_1 BK308 NB308_306) hb); replace HB := Aside0.mk (below_step (bl_3 HB GE306 GE307 GE308) hb); (try clear hb); obtain ⟨hcz25_0, hcz25_1, hcz25_2, hfz25_0, hfz25_1, hfz25_2⟩ := c3_ BK306; obtain ⟨hcz26_0, hcz26_1, hcz26_2, hcz26_3, hcz26_4, hfz26_0, hfz26_1, hfz26_2, hfz26_3, hfz26_4⟩ := c5_ BK307) | ((with_reducible refine gate_callee (f := 50) rfl ?_); refine goesL_ (some 38) rfl rfl Try.func50 (by kernel_rfl) rfl #[.agg #[.slice Ao20 t310.length co20, .bool false, .int .i64 a0_2], .string a1_1] rfl (ar_) ?_; (with_reducible refine (disk_place.calls k _ _ t310 false a0_2 a1_1 t314 t315 _ ?side1 ?side2 A9.out).mono ?_); (case side1 => exact cl_ ((Kd.R_reads' HO312.out).2.2)); (case side2 => exact (Kd.R_reads' HO312.out).2.1); rintro e w27 ⟨rfl, hb⟩; refine ⟨_, rfl, ?_⟩; replace HO312 := Aside0.mk (Kd.R_below (by (with_reducible repeat (first | apply Kd.R_alloc | apply Kd.R_drewN | apply Kd.R_drew)); exact HO312.out) hb); replace BK306 := Aside0.mk (bb_ BK306 hb); replace BK307 := Aside0.mk (bb_ BK307 hb); replace BK308 := Aside0.mk (bb_ BK308 hb); replace HB := Aside0.mk (below_step (bl_3 HB GE306 GE307 GE308) hb); (try clear hb); obtain ⟨hcz28_0, hcz28_1, hcz28_2, hcz28_3, hcz28_4, hfz28_0, hfz28_1, hfz28_2, hfz28_3, hfz28_4⟩ := c5_ BK307))
 (try simp only [Act.put, List.setIfInBounds_toArray, List.set_cons_zero, List.set_cons_succ])
 go_cut [] (fun wc => ∃ (kq : Nat) (x307000_9 : List (S71)) (u307000 : Value), Aside0 (disk_done.j0 kq t314 x307000_9 false a0_2 a1_0 a1_1 a1_2 a1_3 a1_4 = some (r1, r2, r3, r4)) ∧ Aside0 (kq ≤ k) ∧ Aside0 (Kd.R k71 71 wc w.heap.size (fun _ => True) u307000 x307000_9) ∧ Aside0 (wc.heap[gb306]? = some (.cells #[u307000, .bool false, .int .i64 a0_2] 24 (0, 0))) ∧ Aside0 (wc.heap[gb307]? = some (.cells #[.int .u8 a1_0, .string a1_1, .string a1_2, .string a1_3, .int .i64 a1_4] 115 (0, 0))) ∧ Aside0 (wc.heap[gb308]? = some (.cells #[(.slice none 0 0), .bool false, .int .i64 0] 24 (0, 0))) ∧ Aside0 (Below w.heap.size w wc))
 case first =>
  have H := HC10.out
  clear HC10
  by_cases c29 : a1_0 = 0
  rotate_left
  ·rw [if_neg c29] at H
   have c29b0 : (a1_0 == 0) = false := beq_eq_false_iff_ne.mpr c29
   have c29b1 : (a1_0 != 0) = true := bne_iff_ne.mpr c29
   (first | rw [c29b0] | (simp only [i64_w, i32_w]; rw [c29b0]) | skip)
   have H' := Aside0.mk H
   clear H
   go_wp2
   go_meet
   case rel => exact ⟨_, (t310), (.slice Ao20 t310.length co20), H', ⟨by first | omega | exact Nat.le_refl _⟩, ⟨by (with_reducible repeat (first | apply Kd.R_alloc | apply Kd.R_drewN | apply Kd.R_drew)); exact HO312.out⟩, ⟨bk_ BK306⟩, ⟨bk_ BK307⟩, ⟨bk_ BK308⟩, ⟨bl_3 HB GE306 GE307 GE308⟩⟩
  rw [if_pos c29] at H
  have c29b0 : (a1_0 == 0) = true := beq_iff_eq.mpr c29
  have c29b1 : (a1_0 != 0) = false := bne_eq_false_iff_eq.mpr c29
  clear c29
  (first | rw [c29b0] | (simp only [i64_w, i32_w]; rw [c29b0]) | skip)
  by_cases c30 : t315 = true
  ·subst c30
   have H1 : (none) = some (r1, r2, r3, r4) := by rw [if_pos rfl] at H; exact H
   clear H
   have H := H1
   clear H1
   exact absurd H (by simp)
  replace c30 := Bool.eq_false_iff.mpr c30
  subst c30
  have H1 : ((api_File_108.f t310 t314 (([(⟨a1_1, (⟨#[]⟩ : ByteArray), 0⟩ : S71)] : List (S71)))).bind fun t319 => (if 0 ≤ t314 then (if t314 < (t319.length : Int) then (if ((rd_T71 t319 t314).f1).size + a1_3.size ≤ 9223372036854775807 then (disk_done.j0 k t314 (t319.set (t314 : Int).toNat (⟨(rd_T71 t319 t314).f0, ((rd_T71 t319 t314).f1) ++ a1_3, (rd_T71 t319 t314).f2⟩ : S71)) false a0_2 a1_0 a1_1 a1_2 a1_3 a1_4) else (none)) else (none)) else (none))) = some (r1, r2, r3, r4) := by rw [if_neg (show ¬ (false = true) by decide)] at H; exact H
  clear H
  have H := H1
  clear H1
  obtain ⟨y316, hy316⟩ : ∃ y_ : List (S71), y_ = (([(⟨a1_1, (⟨#[]⟩ : ByteArray), 0⟩ : S71)] : List (S71))) := ⟨_, rfl⟩
  replace H : ((api_File_108.f t310 t314 y316).bind fun t319 => (if 0 ≤ t314 then (if t314 < (t319.length : Int) then (if ((rd_T71 t319 t314).f1).size + a1_3.size ≤ 9223372036854775807 then (disk_done.j0 k t314 (t319.set (t314 : Int).toNat (⟨(rd_T71 t319 t314).f0, ((rd_T71 t319 t314).f1) ++ a1_3, (rd_T71 t319 t314).f2⟩ : S71)) false a0_2 a1_0 a1_1 a1_2 a1_3 a1_4) else (none)) else (none)) else (none))) = some (r1, r2, r3, r4) := by first | (rw [hy316]; with_reducible exact H) | (have H2_ := (Option.bind_some _ _).symm.trans H; rw [hy316]; with_reducible exact H2_) | (have H2_ := (Option.bind_some _ _).symm.trans H; with_reducible exact H2_) | with_reducible exact H | (rw [hy316]; exact H) | exact H
  have Ny316 := Aside0.mk hy316
  clear hy316
  obtain ⟨t319, A310, H⟩ := Option.bind_eq_some_iff.mp H
  try dsimp only at H
  have A31 := Aside0.mk A310
  clear A310
  by_cases c32 : 0 ≤ t314
  rotate_left
  ·rw [if_neg c32] at H
   exact absurd H (by simp)
  rw [if_pos c32] at H
  have c32b0 : decide (0 ≤ t314) = true := decide_eq_true c32
  clear c32
  by_cases c33 : t314 < (t319.length : Int)
  rotate_left
  ·rw [if_neg c33] at H
   exact absurd H (by simp)
  rw [if_pos c33] at H
  have c33b0 : decide (t314 < (t319.length : Int)) = true := decide_eq_true c33
  clear c33
  by_cases c34 : ((rd_T71 t319 t314).f1).size + a1_3.size ≤ 9223372036854775807
  rotate_left
  ·rw [if_neg c34] at H
   exact absurd H (by simp)
  rw [if_pos c34] at H
  have c34b0 := eq_true c34
  have c34b1 : decide (((rd_T71 t319 t314).f1).size + a1_3.size ≤ 9223372036854775807) = true := decide_eq_true c34
  try have c34b2 : (9223372036854775807 < ((rd_T71 t319 t314).f1).size + a1_3.size) = False := eq_false (Nat.not_lt.2 c34)
  clear c34
  obtain ⟨y323, hy323⟩ : ∃ y_ : List (S71), y_ = (t319.set (t314 : Int).toNat (⟨(rd_T71 t319 t314).f0, ((rd_T71 t319 t314).f1) ++ a1_3, (rd_T71 t319 t314).f2⟩ : S71)) := ⟨_, rfl⟩
  replace H : (disk_done.j0 k t314 y323 false a0_2 a1_0 a1_1 a1_2 a1_3 a1_4) = some (r1, r2, r3, r4) := by first | (rw [hy323]; with_reducible exact H) | (have H2_ := (Option.bind_some _ _).symm.trans H; rw [hy323]; with_reducible exact H2_) | (have H2_ := (Option.bind_some _ _).symm.trans H; with_reducible exact H2_) | with_reducible exact H | (rw [hy323]; exact H) | exact H
  have Ny323 := Aside0.mk hy323
  clear hy323
  have H' := Aside0.mk H
  clear H
  have hnb36 := NB306_307.out
  have hnc36 := NB307_306.out
  have hnb37 := NB306_308.out
  have hnc37 := NB308_306.out
  obtain ⟨hcz38_0, hcz38_1, hcz38_2, hfz38_0, hfz38_1, hfz38_2⟩ := c3_ BK306
  have hnb39 := NB307_308.out
  have hnc39 := NB308_307.out
  obtain ⟨hcz40_0, hcz40_1, hcz40_2, hcz40_3, hcz40_4, hfz40_0, hfz40_1, hfz40_2, hfz40_3, hfz40_4⟩ := c5_ BK307
  try go_wp2_with (first | ((with_reducible refine gate_dst (N := 52) rfl ?_); refine Kd.R_lit k71 _ 71 ?hg (N := 52) ?hd (xs := ([(⟨a1_1, (⟨#[]⟩ : ByteArray), 0⟩ : S71)] : List (S71))) (inner := [.string a1_1, .string (⟨#[]⟩ : ByteArray), .int .i64 0]) (ok := fun _ => True) (okp := fun _ => True) ?hr ?hp (fun _ hk => hk) trivial (Below.refl _ _) (Nat.le_refl _) (by simp) ?_; (case hd => rfl); (case hg => rfl); (case hr => first | (go_simp; done) | (go_simp; rfl)); (case hp => exact (Reps.c3 (show Kd.M k71 _ _ _ (⟨a1_1, (⟨#[]⟩ : ByteArray), 0⟩ : S71) [.string a1_1, .string (⟨#[]⟩ : ByteArray), .int .i64 0] from (k71_mkM _ _ _ (⟨a1_1, (⟨#[]⟩ : ByteArray), 0⟩ : S71) )) (Reps.none _ _))); intro v317 w41 ho42 hb hg_ hnew_; clear hg_ hnew_; (first | rw [← Ny316.out] at ho42 | (simp only [Int.reduceToNat] at ho42; rw [← Ny316.out] at ho42)); have HO318 := Aside0.mk (Kd.R_lower (Kd.R_new' ho42 (Kd.R_lt (by (with_reducible repeat (first | apply Kd.R_alloc | apply Kd.R_drewN | apply Kd.R_drew)); exact HO312.out))) (below_size (bl_3 HB GE306 GE307 GE308))); replace HO312 := Aside0.mk (Kd.R_elder' (by (with_reducible repeat (first | apply Kd.R_alloc | apply Kd.R_drewN | apply Kd.R_drew)); exact HO312.out) (Kd.R_base ho42) hb); replace BK306 := Aside0.mk (bb_ BK306 hb); replace BK307 := Aside0.mk (bb_ BK307 hb); replace BK308 := Aside0.mk (bb_ BK308 hb); replace HB := Aside0.mk (below_step (bl_3 HB GE306 GE307 GE308) hb); clear hb ho42; obtain ⟨Ao43, co43, eo43⟩ := Kd.R_slice HO318.out; subst eo43) | ((with_reducible refine gate_callee (f := 108) rfl ?_); refine goesL_ (some 53) rfl rfl Try.func108 (by kernel_rfl) rfl #[.slice Ao20 t310.length co20, .int .i64 t314, .slice Ao43 y316.length co43] rfl (ar_) ?_; (with_reducible refine (api_File_108.calls (fun k_ => some k_ = (.slice Ao20 t310.length co20 : Value).ownBlock) (.slice Ao20 t310.length co20) t310 t314 (fun k_ => some k_ = (.slice Ao43 y316.length co43 : Value).ownBlock) (.slice Ao43 y316.length co43) y316 t319 w _ ?side1 ?side2 ?side3 ?side4 ?side5 A31.out).mono ?_); (case side1 => repeat (first | (with_reducible first | exact HB.out | apply below_alloc | apply pw_below_drewN | apply below_drew1 | refine below_set ?_ GE306.out | refine below_set ?_ GE307.out | refine below_set ?_ GE308.out) | exact HB.out)); (case side2 => exact Kd.R_tight rfl HO312.out); (case side3 => exact fun k_ e_ => (HO312.out.1 k_ e_.symm).2); (case side4 => exact Kd.R_tight rfl HO318.out); (case side5 => exact fun k_ e_ => (HO318.out.1 k_ e_.symm).2); rintro e w44 ⟨v320, rfl, ho0, hb, hkp⟩; refine ⟨_, rfl, ?_⟩; replace BK306 := Aside0.mk (blk_kept (bk_ BK306) hkp (fun hs_ => Or.elim hs_ (fun e_ => (fun e_ => (Kd.R_ne HO312.out BK306.out (by decide)) e_) e_) (fun e_ => (fun e_ => (Kd.R_ne HO318.out BK306.out (by decide)) e_) e_))); replace BK307 := Aside0.mk (blk_kept (bk_ BK307) hkp (fun hs_ => Or.elim hs_ (fun e_ => (fun e_ => (Kd.R_ne HO312.out BK307.out (by decide)) e_) e_) (fun e_ => (fun e_ => (Kd.R_ne HO318.out BK307.out (by decide)) e_) e_))); replace BK308 := Aside0.mk (blk_kept (bk_ BK308) hkp (fun hs_ => Or.elim hs_ (fun e_ => (fun e_ => (Kd.R_ne HO312.out BK308.out (by decide)) e_) e_) (fun e_ => (fun e_ => (Kd.R_ne HO318.out BK308.out (by decide)) e_) e_))); have HO321 := Aside0.mk (Kd.R_mono (ok' := fun k_ => True) ho0 (fun k_ hk_ => trivial)); replace HB := Aside0.mk (hb); clear HO312; clear HO318; (try clear hb); (try clear hkp); (try clear ho0); obtain ⟨Ao45, co45, eo45⟩ := Kd.R_slice HO321.out; subst eo45; obtain ⟨hcz46_0, hcz46_1, hcz46_2, hfz46_0, hfz46_1, hfz46_2⟩ := c3_ BK306))
  have n0_ : Aside0 (Kd.R k71 71 (w44.setCell ⟨gb306, 0, none⟩ (.slice Ao45 t319.length co45)) w.heap.size (fun _ => True) (.slice Ao45 t319.length co45) t319) := ⟨by (with_reducible repeat (first | apply Kd.R_alloc | apply Kd.R_drewN | apply Kd.R_drew)); exact Kd.R_mono (Kd.R_far (p := ⟨gb306, 0, none⟩) (Kd.R_types HO321.out BK306.out (by decide)) (fun _ hk => hk.2) (.slice Ao45 t319.length co45)) (fun _ hk => trivial)⟩
  have n1_ : Aside0 ((w44.setCell ⟨gb306, 0, none⟩ (.slice Ao45 t319.length co45)).heap[gb306]? = some (.cells #[.slice Ao45 t319.length co45, .bool false, .int .i64 a0_2] 24 (0, 0))) := ⟨by (with_reducible repeat (first | refine blk_drewN ?_ _ | refine blk_drew ?_ | refine blk_alloc ?_ _)); refine blk_put (cs := #[.slice Ao20 t310.length co20, .bool false, .int .i64 a0_2]) ?_ 0 _ rfl; (with_reducible repeat (first | refine blk_drewN ?_ _ | refine blk_drew ?_ | refine blk_alloc ?_ _)); exact BK306.out⟩
  have n2_ : Aside0 ((w44.setCell ⟨gb306, 0, none⟩ (.slice Ao45 t319.length co45)).heap[gb307]? = some (.cells #[.int .u8 a1_0, .string a1_1, .string a1_2, .string a1_3, .int .i64 a1_4] 115 (0, 0))) := ⟨by (with_reducible repeat (first | refine blk_drewN ?_ _ | refine blk_drew ?_ | refine blk_alloc ?_ _)); refine blk_far ?_ NB307_306.out _; (with_reducible repeat (first | refine blk_drewN ?_ _ | refine blk_drew ?_ | refine blk_alloc ?_ _)); exact BK307.out⟩
  have n3_ : Aside0 ((w44.setCell ⟨gb306, 0, none⟩ (.slice Ao45 t319.length co45)).heap[gb308]? = some (.cells #[.slice none 0 0, .bool false, .int .i64 0] 24 (0, 0))) := ⟨by (with_reducible repeat (first | refine blk_drewN ?_ _ | refine blk_drew ?_ | refine blk_alloc ?_ _)); refine blk_far ?_ NB308_306.out _; (with_reducible repeat (first | refine blk_drewN ?_ _ | refine blk_drew ?_ | refine blk_alloc ?_ _)); exact BK308.out⟩
  have n4_ : Aside0 (Below w.heap.size w (w44.setCell ⟨gb306, 0, none⟩ (.slice Ao45 t319.length co45))) := ⟨bl_3 HB GE306 GE307 GE308⟩
  (try clear HO321)
  (try clear BK306)
  (try clear BK307)
  (try clear BK308)
  (try clear HB)
  generalize (w44.setCell ⟨gb306, 0, none⟩ (.slice Ao45 t319.length co45)) = w47 at n0_ n1_ n2_ n3_ n4_ ⊢
  have HO321 := n0_
  have BK306 := n1_
  have BK307 := n2_
  have BK308 := n3_
  have HB := n4_
  clear n0_ n1_ n2_ n3_ n4_
  have n0_ := Aside0.mk (Kd.R_drew HO321.out)
  have n1_ := Aside0.mk (blk_drew BK306.out)
  have n2_ := Aside0.mk (blk_drew BK307.out)
  have n3_ := Aside0.mk (blk_drew BK308.out)
  have n4_ := Aside0.mk (below_drew1 HB.out)
  clear HO321
  clear BK306
  clear BK307
  clear BK308
  clear HB
  have HO321 := n0_
  have BK306 := n1_
  have BK307 := n2_
  have BK308 := n3_
  have HB := n4_
  clear n0_ n1_ n2_ n3_ n4_
  have p322 : 0 ≤ (t314 : Int) := of_decide_eq_true (by first | (with_reducible assumption) | assumption)
  have q322 : t314 < (t319.length : Int) := of_decide_eq_true (by first | (with_reducible assumption) | assumption)
  obtain ⟨ad322, e322, hx322_0, hx322_1, hx322_2⟩ := at_T71 (Kd.R_reads' HO321.out).2.2 t314 p322 q322
  cases e322
  replace p322 := eq_true p322
  replace q322 := eq_true q322
  have p35 : 0 ≤ (t314 : Int) := of_decide_eq_true (by first | (with_reducible assumption) | assumption)
  have q35 : (t314 : Int) < ((t319.length : Int) : Int) := of_decide_eq_true (by first | (with_reducible assumption) | assumption)
  obtain ⟨go35, co35, eo35, gb35, gl35, cl35, HG35⟩ := Kd.R_form HO321.out (by omega)
  (first | cases eo35 | (injection eo35 with ea_ en_ ec_; (first | subst ea_ | (injection ea_ with ea_; subst ea_)); subst ec_; clear en_))
  have GB35 := Aside0.mk gb35
  have GG35 := Aside0.mk HG35
  clear gb35 gl35 HG35
  (first | simp only [add_plain] at hx322_0 | skip)
  (first | simp only [add_plain] at hx322_1 | skip)
  (first | simp only [add_plain] at hx322_2 | skip)
  obtain ⟨ce35, hcl35, hM35, hcc35, hfr35⟩ := Kd.R_elem HO321.out z71 (t314 : Int) p35 q35
  obtain rfl := k71_openM hM35
  have hx35_0 : World.cell? _ ⟨go35, (t314 : Int).toNat * 3, none⟩ = some (.string ((rd_T71 t319 t314).f0)) := hcc35 0 _ rfl
  have hx35_1 : World.cell? _ ⟨go35, (t314 : Int).toNat * 3 + 1, none⟩ = some (.string ((rd_T71 t319 t314).f1)) := hcc35 1 _ rfl
  have hx35_2 : World.cell? _ ⟨go35, (t314 : Int).toNat * 3 + 2, none⟩ = some (.int .i64 ((rd_T71 t319 t314).f2)) := hcc35 2 _ rfl
  have hf35_0 : World.frozen? _ ⟨go35, (t314 : Int).toNat * 3, none⟩ = false := hfr35 0
  have hf35_1 : World.frozen? _ ⟨go35, (t314 : Int).toNat * 3 + 1, none⟩ = false := hfr35 1
  have hf35_2 : World.frozen? _ ⟨go35, (t314 : Int).toNat * 3 + 2, none⟩ = false := hfr35 2
  clear hcl35 hcc35 hfr35 hM35
  replace p35 := eq_true p35
  replace q35 := eq_true q35
  obtain ⟨ce49, hcl49, hM49, hcc49, hfr49⟩ := Kd.R_elem HO321.out z71 (t314 : Int) (of_decide_eq_true (by first | (with_reducible assumption) | assumption)) (by have h_ : (t314 : Int) < ((t319.length : Int) : Int) := of_decide_eq_true (by first | (with_reducible assumption) | assumption); first | exact h_ | (have e_ := (Kd.R_reads' HO321.out).1; omega) | simpa using h_)
  obtain rfl := k71_openM hM49
  have HP49 := (Kd.R_seg HO321.out (t314 : Int) (of_decide_eq_true (by first | (with_reducible assumption) | assumption)) (by have h_ : (t314 : Int) < ((t319.length : Int) : Int) := of_decide_eq_true (by first | (with_reducible assumption) | assumption); first | exact h_ | (have e_ := (Kd.R_reads' HO321.out).1; omega) | simpa using h_) (seg := [.string (((rd_T71 t319 t314).f1) ++ a1_3)]) (j := 1) hcl49 hcc49 (show 2 ≤ 3 from by decide) (x' := (⟨(rd_T71 t319 t314).f0, ((rd_T71 t319 t314).f1) ++ a1_3, (rd_T71 t319 t314).f2⟩ : S71)) (k71_mkM _ _ _ (⟨(rd_T71 t319 t314).f0, ((rd_T71 t319 t314).f1) ++ a1_3, (rd_T71 t319 t314).f2⟩ : S71) ) (fun _ hk => hk)).1
  rw [← Ny323.out] at HP49
  have HQ49 := Aside0.mk HP49
  clear hcl49 hcc49 hfr49 hM49 HP49
  refine start_ (n := 12) (S := fun w' => w'.cell? ⟨gb306, 0, none⟩ = some (.slice (some ⟨go35, 0, none⟩) t319.length co45) ∧ w'.cell? ⟨gb306, 1, none⟩ = some (.bool false) ∧ w'.cell? ⟨gb306, 2, none⟩ = some (.int .i64 a0_2) ∧ w'.cell? ⟨gb307, 0, none⟩ = some (.int .u8 a1_0) ∧ w'.cell? ⟨gb307, 1, none⟩ = some (.string a1_1) ∧ w'.cell? ⟨gb307, 2, none⟩ = some (.string a1_2) ∧ w'.cell? ⟨gb307, 3, none⟩ = some (.string a1_3) ∧ w'.cell? ⟨gb307, 4, none⟩ = some (.int .i64 a1_4) ∧ w'.cell? ⟨go35, ((t314).toNat * 3), none⟩ = some (.string ((rd_T71 t319 t314).f0)) ∧ w'.cell? ⟨go35, ((t314).toNat * 3) + 1, none⟩ = some (.string ((rd_T71 t319 t314).f1)) ∧ w'.cell? ⟨go35, ((t314).toNat * 3) + 2, none⟩ = some (.int .i64 ((rd_T71 t319 t314).f2))) (ds := [11]) #[false, false, false, false, false, false, false, false, false, false, false, false] (by kernel_rfl) rfl rfl ⟨(blk_cell BK306.out 0).trans rfl, (blk_cell BK306.out 1).trans rfl, (blk_cell BK306.out 2).trans rfl, (blk_cell BK307.out 0).trans rfl, (blk_cell BK307.out 1).trans rfl, (blk_cell BK307.out 2).trans rfl, (blk_cell BK307.out 3).trans rfl, (blk_cell BK307.out 4).trans rfl, hx322_0, hx322_1, hx322_2⟩ (fun hHeld => ?_); refine with_tabW disk_done.tab14 disk_done.bits14 (fun HT_ HW_ => ?_)
  generalize w47.drew = w48 at HO321 BK306 BK307 BK308 HB GG35 HQ49 hf35_0 hf35_1 hf35_2 hx322_0 hx322_1 hx322_2 hx35_0 hx35_1 hx35_2 hHeld ⊢
  refine pure_ (i := 0) (N := some 55) (v := ?_) (a' := ?_) #[true, false, false, false, false, false, false, false, false, false, false, false] rfl rfl (any_of HT_.out (by kernel_rfl)) (fun _ _ _ h => h) (Or.inl ⟨by rfl, ?_⟩) ?_ ?_
  rotate_left
  ·intro w'
   go_simp
   with_reducible rfl
  rotate_left
  ·simp only [Act.put, List.setIfInBounds_toArray, List.set_cons_zero, List.set_cons_succ, i64_w, i32_w]
   rfl
  refine pure_ (i := 2) (N := some 57) (v := ?_) (a' := ?_) #[true, false, true, false, false, false, false, false, false, false, false, false] rfl rfl (any_of HT_.out (by kernel_rfl)) (fun _ _ _ h => h) (Or.inl ⟨by rfl, ?_⟩) ?_ ?_
  rotate_left
  ·intro w'
   go_simp
   with_reducible rfl
  rotate_left
  ·simp only [Act.put, List.setIfInBounds_toArray, List.set_cons_zero, List.set_cons_succ, i64_w, i32_w]
   rfl
  refine pure_ (i := 6) (N := some 61) (v := ?_) (a' := ?_) #[true, false, true, false, false, false, true, false, false, false, false, false] rfl rfl (any_of HT_.out (by kernel_rfl)) (fun _ _ _ h => h) (Or.inl ⟨by rfl, ?_⟩) ?_ ?_
  rotate_left
  ·intro w'
   go_simp
   with_reducible rfl
  rotate_left
  ·simp only [Act.put, List.setIfInBounds_toArray, List.set_cons_zero, List.set_cons_succ, i64_w, i32_w]
   rfl
  refine take_ (i := 1) (N := some 56) (v := ?_) (a' := ?_) #[true, true, true, false, false, false, true, false, false, false, false, false] rfl rfl (take_ofW HT_.out HW_.out (by kernel_rfl)) (fun _ _ _ h => h) (Or.inl ⟨by rfl, ?_⟩) hHeld ?_ ?_
  rotate_left
  ·rintro w' ⟨s0, s1, s2, s3, s4, s5, s6, s7, s8, s9, s10⟩
   go_simp
   with_reducible rfl
  rotate_left
  ·simp only [Act.put, List.setIfInBounds_toArray, List.set_cons_zero, List.set_cons_succ, i64_w, i32_w]
   rfl
  refine pure_ (i := 3) (N := some 58) (v := ?_) (a' := ?_) #[true, true, true, true, false, false, true, false, false, false, false, false] rfl rfl (any_of HT_.out (by kernel_rfl)) (fun _ _ _ h => h) (Or.inl ⟨by rfl, ?_⟩) ?_ ?_
  rotate_left
  ·intro w'
   go_simp
   with_reducible rfl
  rotate_left
  ·simp only [Act.put, List.setIfInBounds_toArray, List.set_cons_zero, List.set_cons_succ, i64_w, i32_w]
   rfl
  refine pure_ (i := 4) (N := some 59) (v := ?_) (a' := ?_) #[true, true, true, true, true, false, true, false, false, false, false, false] rfl rfl (any_of HT_.out (by kernel_rfl)) (fun _ _ _ h => h) (Or.inl ⟨by rfl, ?_⟩) ?_ ?_
  rotate_left
  ·intro w'
   go_simp
   with_reducible rfl
  rotate_left
  ·simp only [Act.put, List.setIfInBounds_toArray, List.set_cons_zero, List.set_cons_succ, i64_w, i32_w]
   rfl
  refine take_ (i := 5) (N := some 60) (v := ?_) (a' := ?_) #[true, true, true, true, true, true, true, false, false, false, false, false] rfl rfl (take_ofW HT_.out HW_.out (by kernel_rfl)) (fun _ _ _ h => h) (Or.inl ⟨by rfl, ?_⟩) hHeld ?_ ?_
  rotate_left
  ·rintro w' ⟨s0, s1, s2, s3, s4, s5, s6, s7, s8, s9, s10⟩
   go_simp
   with_reducible rfl
  rotate_left
  ·simp only [Act.put, List.setIfInBounds_toArray, List.set_cons_zero, List.set_cons_succ, i64_w, i32_w]
   rfl
  refine take_ (i := 7) (N := some 62) (v := ?_) (a' := ?_) #[true, true, true, true, true, true, true, true, false, false, false, false] rfl rfl (take_ofW HT_.out HW_.out (by kernel_rfl)) (fun _ _ _ h => h) (Or.inl ⟨by rfl, ?_⟩) hHeld ?_ ?_
  rotate_left
  ·rintro w' ⟨s0, s1, s2, s3, s4, s5, s6, s7, s8, s9, s10⟩
   go_simp
   with_reducible rfl
  rotate_left
  ·simp only [Act.put, List.setIfInBounds_toArray, List.set_cons_zero, List.set_cons_succ, i64_w, i32_w]
   rfl
  refine pure_ (i := 8) (N := some 63) (v := ?_) (a' := ?_) #[true, true, true, true, true, true, true, true, true, false, false, false] rfl rfl (any_of HT_.out (by kernel_rfl)) (fun _ _ _ h => h) (Or.inl ⟨by rfl, ?_⟩) ?_ ?_
  rotate_left
  ·intro w'
   go_simp
   with_reducible rfl
  rotate_left
  ·simp only [Act.put, List.setIfInBounds_toArray, List.set_cons_zero, List.set_cons_succ, i64_w, i32_w]
   rfl
  refine pure_ (i := 9) (N := some 64) (v := ?_) (a' := ?_) #[true, true, true, true, true, true, true, true, true, true, false, false] rfl rfl (any_of HT_.out (by kernel_rfl)) (fun _ _ _ h => h) (Or.inl ⟨by rfl, ?_⟩) ?_ ?_
  rotate_left
  ·intro w'
   go_simp
   with_reducible rfl
  rotate_left
  ·simp only [Act.put, List.setIfInBounds_toArray, List.set_cons_zero, List.set_cons_succ, i64_w, i32_w]
   rfl
  refine pure_ (i := 10) (N := some 65) (v := ?_) (a' := ?_) #[true, true, true, true, true, true, true, true, true, true, true, false] rfl rfl (any_of HT_.out (by kernel_rfl)) (fun _ _ _ h => h) (Or.inl ⟨by rfl, ?_⟩) ?_ ?_
  rotate_left
  ·intro w'
   go_simp
   with_reducible rfl
  rotate_left
  ·simp only [Act.put, List.setIfInBounds_toArray, List.set_cons_zero, List.set_cons_succ, i64_w, i32_w]
   rfl
  refine last_ (i := 11) (N := none) #[true, true, true, true, true, true, true, true, true, true, true, true] rfl rfl (one_of HT_.out (by kernel_rfl)) (by decide) (fun K hK => ?_)
  refine skip_ (w1 := ?_) (by rfl) rfl ?_ ?_
  rotate_left
  ·go_simp
   rfl
  refine hK.out _ _ ?_
  clear hK K
  refine done_ (done_of HT_.out (by kernel_rfl)) ?_
  try go_wp2
  go_meet
  case rel => exact ⟨_, (y323), (.slice (some ⟨go35, 0, none⟩) t319.length co45), H', ⟨by first | omega | exact Nat.le_refl _⟩, ⟨by (with_reducible repeat (first | apply Kd.R_alloc | apply Kd.R_drewN | apply Kd.R_drew)); exact HQ49.out⟩, ⟨by (with_reducible repeat (first | refine blk_drewN ?_ _ | refine blk_drew ?_ | refine blk_alloc ?_ _)); refine blk_far ?_ (by have h_ := Kd.R_ne HO321.out BK306.out (by decide); intro e_; exact h_ (by rw [e_]; rfl)) _; (with_reducible repeat (first | refine blk_drewN ?_ _ | refine blk_drew ?_ | refine blk_alloc ?_ _)); exact BK306.out⟩, ⟨by (with_reducible repeat (first | refine blk_drewN ?_ _ | refine blk_drew ?_ | refine blk_alloc ?_ _)); refine blk_far ?_ (by have h_ := Kd.R_ne HO321.out BK307.out (by decide); intro e_; exact h_ (by rw [e_]; rfl)) _; (with_reducible repeat (first | refine blk_drewN ?_ _ | refine blk_drew ?_ | refine blk_alloc ?_ _)); exact BK307.out⟩, ⟨by (with_reducible repeat (first | refine blk_drewN ?_ _ | refine blk_drew ?_ | refine blk_alloc ?_ _)); refine blk_far ?_ (by have h_ := Kd.R_ne HO321.out BK308.out (by decide); intro e_; exact h_ (by rw [e_]; rfl)) _; (with_reducible repeat (first | refine blk_drewN ?_ _ | refine blk_drew ?_ | refine blk_alloc ?_ _)); exact BK308.out⟩, ⟨bl_4 HB GB35 GE306 GE307 GE308⟩⟩
 case rest =>
  clear HC10
  try clear c1
  try clear c2
  try clear p2
  try clear c3
  try clear p3
  try clear q3
  try clear hx3
  try clear hf3
  try clear c4
  try clear c4b0
  try clear c4b1
  try clear c5
  try clear c6
  try clear c8
  try clear c8b0
  try clear c8b1
  try clear c9
  try clear c10
  try clear c14
  try clear c15
  try clear c22
  try clear c29
  try clear c29b0
  try clear c29b1
  try clear c30
  try clear c32
  try clear c32b0
  try clear p32
  try clear q32
  try clear hx32
  try clear c33
  try clear c33b0
  try clear c34
  try clear c34b0
  try clear c34b1
  try clear c34b2
  try clear c35
  try clear p35
  try clear q35
  try clear hx35
  try clear hf35
  try clear c36
  try clear c37
  try clear c39
  try clear c48
  try clear c49
  try clear hcz16_0
  try clear hcz16_1
  try clear hcz16_2
  try clear hcz18_0
  try clear hcz18_1
  try clear hcz18_2
  try clear hcz21_0
  try clear hcz21_1
  try clear hcz21_2
  try clear hcz23_0
  try clear hcz23_1
  try clear hcz23_2
  try clear hcz23_3
  try clear hcz23_4
  try clear hcz25_0
  try clear hcz25_1
  try clear hcz25_2
  try clear hcz26_0
  try clear hcz26_1
  try clear hcz26_2
  try clear hcz26_3
  try clear hcz26_4
  try clear hcz28_0
  try clear hcz28_1
  try clear hcz28_2
  try clear hcz28_3
  try clear hcz28_4
  try clear hcz38_0
  try clear hcz38_1
  try clear hcz38_2
  try clear hcz40_0
  try clear hcz40_1
  try clear hcz40_2
  try clear hcz40_3
  try clear hcz40_4
  try clear hcz46_0
  try clear hcz46_1
  try clear hcz46_2
  try clear hfz16_0
  try clear hfz16_1
  try clear hfz16_2
  try clear hfz18_0
  try clear hfz18_1
  try clear hfz18_2
  try clear hfz21_0
  try clear hfz21_1
  try clear hfz21_2
  try clear hfz23_0
  try clear hfz23_1
  try clear hfz23_2
  try clear hfz23_3
  try clear hfz23_4
  try clear hfz25_0
  try clear hfz25_1
  try clear hfz25_2
  try clear hfz26_0
  try clear hfz26_1
  try clear hfz26_2
  try clear hfz26_3
  try clear hfz26_4
  try clear hfz28_0
  try clear hfz28_1
  try clear hfz28_2
  try clear hfz28_3
  try clear hfz28_4
  try clear hfz38_0
  try clear hfz38_1
  try clear hfz38_2
  try clear hfz40_0
  try clear hfz40_1
  try clear hfz40_2
  try clear hfz40_3
  try clear hfz40_4
  try clear hfz46_0
  try clear hfz46_1
  try clear hfz46_2
  try clear hx322_0
  try clear hx322_1
  try clear hx322_2
  try clear hx35_0
  try clear hx35_1
  try clear hx35_2
  try clear p322
  try clear p35
  try clear q322
  try clear q35
  obtain ⟨kq, x307000_9, u307000, HA, HJ9, HO_307000, BK306, BK307, BK308, HB⟩ := hcut
  cases kq with
  | zero => exact absurd HA.out (by simp [disk_done.j0])
  | succ kj9 =>
   have H := HA.out
   clear HA
   simp only [disk_done.j0] at H
   by_cases c50 : a0_2 = 0
   ·rw [if_pos c50] at H
    exact absurd H (by simp)
   rw [if_neg c50] at H
   have c50b0 : (a0_2 == 0) = false := beq_eq_false_iff_ne.mpr c50
   have c50b1 : (a0_2 != 0) = true := bne_iff_ne.mpr c50
   by_cases c51 : a0_2 > 0
   ·rw [if_pos c51] at H
    exact absurd H (by simp)
   rw [if_neg c51] at H
   have c51b0 : decide (0 < a0_2) = false := decide_eq_false c51
   clear c51
   by_cases c52 : 0 ≤ t314
   rotate_left
   ·rw [if_neg c52] at H
    exact absurd H (by simp)
   rw [if_pos c52] at H
   have c52b0 : decide (0 ≤ t314) = true := decide_eq_true c52
   clear c52
   by_cases c53 : t314 < (x307000_9.length : Int)
   rotate_left
   ·rw [if_neg c53] at H
    exact absurd H (by simp)
   rw [if_pos c53] at H
   have c53b0 : decide (t314 < (x307000_9.length : Int)) = true := decide_eq_true c53
   clear c53
   by_cases c55 : a1_0 = 1
   ·rw [if_pos c55] at H
    have c55b0 : (a1_0 == 1) = true := beq_iff_eq.mpr c55
    have c55b1 : (a1_0 != 1) = false := bne_eq_false_iff_eq.mpr c55
    clear c55
    obtain ⟨y325, hy325⟩ : ∃ y_ : List (S71), y_ = (x307000_9.set (t314 : Int).toNat (⟨(rd_T71 x307000_9 t314).f0, (rd_T71 x307000_9 t314).f1, (((rd_T71 x307000_9 t314).f1).size : Int)⟩ : S71)) := ⟨_, rfl⟩
    replace H : (some (y325, false, a0_2, 0)) = some (r1, r2, r3, r4) := by first | (rw [hy325]; with_reducible exact H) | (have H2_ := (Option.bind_some _ _).symm.trans H; rw [hy325]; with_reducible exact H2_) | (have H2_ := (Option.bind_some _ _).symm.trans H; with_reducible exact H2_) | with_reducible exact H | (rw [hy325]; exact H) | exact H
    have Ny325 := Aside0.mk hy325
    clear hy325
    simp only [Option.some.injEq, Prod.mk.injEq] at H
    obtain ⟨rfl, rfl, rfl, rfl⟩ := H
    have hnb57 := NB306_307.out
    have hnc57 := NB307_306.out
    have hnb58 := NB306_308.out
    have hnc58 := NB308_306.out
    obtain ⟨hcz59_0, hcz59_1, hcz59_2, hfz59_0, hfz59_1, hfz59_2⟩ := c3_ BK306
    have p54 : 0 ≤ (t314 : Int) := of_decide_eq_true (by first | (with_reducible assumption) | assumption)
    have q54 : (t314 : Int) < ((x307000_9.length : Int) : Int) := of_decide_eq_true (by first | (with_reducible assumption) | assumption)
    obtain ⟨go54, co54, eo54, gb54, gl54, cl54, HG54⟩ := Kd.R_form HO_307000.out (by omega)
    (first | cases eo54 | (injection eo54 with ea_ en_ ec_; (first | subst ea_ | (injection ea_ with ea_; subst ea_)); subst ec_; clear en_))
    have GB54 := Aside0.mk gb54
    have GG54 := Aside0.mk HG54
    clear gb54 gl54 HG54
    obtain ⟨ce54, hcl54, hM54, hcc54, hfr54⟩ := Kd.R_elem HO_307000.out z71 (t314 : Int) p54 q54
    obtain rfl := k71_openM hM54
    have hx54_0 : wc.cell? ⟨go54, (t314 : Int).toNat * 3, none⟩ = some (.string ((rd_T71 x307000_9 t314).f0)) := hcc54 0 _ rfl
    have hx54_1 : wc.cell? ⟨go54, (t314 : Int).toNat * 3 + 1, none⟩ = some (.string ((rd_T71 x307000_9 t314).f1)) := hcc54 1 _ rfl
    have hx54_2 : wc.cell? ⟨go54, (t314 : Int).toNat * 3 + 2, none⟩ = some (.int .i64 ((rd_T71 x307000_9 t314).f2)) := hcc54 2 _ rfl
    have hf54_0 : wc.frozen? ⟨go54, (t314 : Int).toNat * 3, none⟩ = false := hfr54 0
    have hf54_1 : wc.frozen? ⟨go54, (t314 : Int).toNat * 3 + 1, none⟩ = false := hfr54 1
    have hf54_2 : wc.frozen? ⟨go54, (t314 : Int).toNat * 3 + 2, none⟩ = false := hfr54 2
    clear hcl54 hcc54 hfr54 hM54
    replace p54 := eq_true p54
    replace q54 := eq_true q54
    have hnb60 := NB307_308.out
    have hnc60 := NB308_307.out
    obtain ⟨hcz61_0, hcz61_1, hcz61_2, hcz61_3, hcz61_4, hfz61_0, hfz61_1, hfz61_2, hfz61_3, hfz61_4⟩ := c5_ BK307
    have p324 : 0 ≤ (t314 : Int) := of_decide_eq_true (by first | (with_reducible assumption) | assumption)
    have q324 : t314 < (x307000_9.length : Int) := of_decide_eq_true (by first | (with_reducible assumption) | assumption)
    obtain ⟨ad324, e324, hx324_0, hx324_1, hx324_2⟩ := at_T71 (Kd.R_reads' HO_307000.out).2.2 t314 p324 q324
    obtain rfl : (⟨go54, 0, none⟩ : Addr) = ad324 := (by injection e324)
    (first | simp only [add_plain] at hx324_0 | simp only [add_at] at hx324_0 | simp only [Addr.add, Nat.zero_add] at hx324_0 | skip)
    (first | simp only [add_plain] at hx324_1 | simp only [add_at] at hx324_1 | simp only [Addr.add, Nat.zero_add] at hx324_1 | skip)
    (first | simp only [add_plain] at hx324_2 | simp only [add_at] at hx324_2 | simp only [Addr.add, Nat.zero_add] at hx324_2 | skip)
    replace p324 := eq_true p324
    replace q324 := eq_true q324
    have p56 : 0 ≤ (t314 : Int) := of_decide_eq_true (by first | (with_reducible assumption) | assumption)
    have q56 : (t314 : Int) < ((x307000_9.length : Int) : Int) := of_decide_eq_true (by first | (with_reducible assumption) | assumption)
    obtain ⟨ce56, hcl56, hM56, hcc56, hfr56⟩ := Kd.R_elem HO_307000.out z71 (t314 : Int) p56 q56
    obtain rfl := k71_openM hM56
    have hx56_0 : wc.cell? ⟨go54, (t314 : Int).toNat * 3, none⟩ = some (.string ((rd_T71 x307000_9 t314).f0)) := hcc56 0 _ rfl
    have hx56_1 : wc.cell? ⟨go54, (t314 : Int).toNat * 3 + 1, none⟩ = some (.string ((rd_T71 x307000_9 t314).f1)) := hcc56 1 _ rfl
    have hx56_2 : wc.cell? ⟨go54, (t314 : Int).toNat * 3 + 2, none⟩ = some (.int .i64 ((rd_T71 x307000_9 t314).f2)) := hcc56 2 _ rfl
    have hf56_0 : wc.frozen? ⟨go54, (t314 : Int).toNat * 3, none⟩ = false := hfr56 0
    have hf56_1 : wc.frozen? ⟨go54, (t314 : Int).toNat * 3 + 1, none⟩ = false := hfr56 1
    have hf56_2 : wc.frozen? ⟨go54, (t314 : Int).toNat * 3 + 2, none⟩ = false := hfr56 2
    clear hcl56 hcc56 hfr56 hM56
    replace p56 := eq_true p56
    replace q56 := eq_true q56
    have HX62 := Aside0.mk (show Kd.R k71 71 wc w.heap.size (fun _ => True) (.slice (some ⟨go54, 0, none⟩) x307000_9.length co54) x307000_9 from (by (with_reducible repeat (first | apply Kd.R_alloc | apply Kd.R_drewN | apply Kd.R_drew)); exact HO_307000.out))
    obtain ⟨ce62, hcl62, hM62, hcc62, hfr62⟩ := Kd.R_elem HX62.out z71 (t314 : Int) (of_decide_eq_true (by first | (with_reducible assumption) | assumption)) (by have h_ : (t314 : Int) < ((x307000_9.length : Int) : Int) := of_decide_eq_true (by first | (with_reducible assumption) | assumption); first | exact h_ | (have e_ := (Kd.R_reads' HO_307000.out).1; omega) | simpa using h_)
    obtain rfl := k71_openM hM62
    have HP62 := Kd.R_seg HX62.out (t314 : Int) (of_decide_eq_true (by first | (with_reducible assumption) | assumption)) (by have h_ : (t314 : Int) < ((x307000_9.length : Int) : Int) := of_decide_eq_true (by first | (with_reducible assumption) | assumption); first | exact h_ | (have e_ := (Kd.R_reads' HO_307000.out).1; omega) | simpa using h_) (seg := [.int .i64 (((rd_T71 x307000_9 t314).f1).size : Int)]) (j := 2) hcl62 hcc62 (show 3 ≤ 3 from by decide) (x' := (⟨(rd_T71 x307000_9 t314).f0, (rd_T71 x307000_9 t314).f1, (((rd_T71 x307000_9 t314).f1).size : Int)⟩ : S71)) (k71_mkM _ _ _ (⟨(rd_T71 x307000_9 t314).f0, (rd_T71 x307000_9 t314).f1, (((rd_T71 x307000_9 t314).f1).size : Int)⟩ : S71) ) (fun _ hk => hk)
    have hx62_2 := hcc62 2 _ rfl
    (try simp only [show (k71).sz = 3 from rfl, Nat.mul_one, Nat.add_zero] at hx62_2)
    have hf62_2 := hfr62 2
    (try simp only [show (k71).sz = 3 from rfl, Nat.mul_one, Nat.add_zero] at hf62_2)
    clear hcl62 hcc62 hfr62 hM62
    go_wp2_with (first | ((with_reducible refine gate_store (t := 3) (p := 93) rfl ?_); refine store_event (t := 3) (p := 93) (v := ?vo_w63) (w1 := (wc.setCell ⟨go54, (t314 : Int).toNat * 3 + 2, none⟩ (.int .i64 (((rd_T71 x307000_9 t314).f1).size : Int)))) ?hg ?ho ?hn ?hr ?_; (case ho => rfl); (case hg => rfl); (case hn => rfl); (case hr => first | (go_simp; done) | (go_simp; rfl)); intro w63 hw; have hg : wc.grownBy w63 (some go54) := (by rw [hw]; exact HP62.2); have hp_ : Kd.R k71 71 w63 w.heap.size (fun _ => True) (.slice (some ⟨go54, 0, none⟩) x307000_9.length co54) y325 := (by rw [hw, Ny325.out]; exact HP62.1); clear HP62; replace BK306 := Aside0.mk (blk_grown (g := gb306) (o := .cells #[.slice (some ⟨go54, 0, none⟩) x307000_9.length co54, .bool false, .int .i64 a0_2] 24 (0, 0)) (bk_ BK306) hg (Kd.R_ne HO_307000.out BK306.out (by decide))); replace BK307 := Aside0.mk (blk_grown (g := gb307) (o := .cells #[.int .u8 a1_0, .string a1_1, .string a1_2, .string a1_3, .int .i64 a1_4] 115 (0, 0)) (bk_ BK307) hg (Kd.R_ne HO_307000.out BK307.out (by decide))); replace BK308 := Aside0.mk (blk_grown (g := gb308) (o := .cells #[.slice none 0 0, .bool false, .int .i64 0] 24 (0, 0)) (bk_ BK308) hg (Kd.R_ne HO_307000.out BK308.out (by decide))); replace HO_307000 := Aside0.mk (hp_); replace HB := Aside0.mk ((by rw [hw]; exact below_set (HB.out) GB54.out : Below w.heap.size w w63)); clear hg hw hp_; obtain ⟨hcz64_0, hcz64_1, hcz64_2, hfz64_0, hfz64_1, hfz64_2⟩ := c3_ BK306; obtain ⟨hcz65_0, hcz65_1, hcz65_2, hfz65_0, hfz65_1, hfz65_2⟩ := c3_ BK308))
    refine bodyPost_ret (results_ct rfl _ _ gb308 24 #[.slice (some ⟨go54, 0, none⟩) x307000_9.length co54, .bool false, .int .i64 a0_2] (0, 0) _ rfl (bp_0 BK308) Try.underlying24 rfl (by kernel_rfl)) rfl ?_
    exact ⟨_, by first | rfl | (simp; done) | (simp [*]; done), by (with_reducible repeat (first | apply Kd.R_alloc | apply Kd.R_drewN | apply Kd.R_drew)); exact Kd.R_mono (Kd.R_far (p := ⟨gb308, 2, none⟩) (Kd.R_far (p := ⟨gb308, 1, none⟩) (Kd.R_far (p := ⟨gb308, 0, none⟩) (Kd.R_types HO_307000.out BK308.out (by decide)) (fun _ hk => hk.2) (.slice (some ⟨go54, 0, none⟩) x307000_9.length co54)) (fun _ hk => hk.2) (.bool false)) (fun _ hk => hk.2) (.int .i64 a0_2)) (fun _ hk => trivial), bl_3 HB GE306 GE307 GE308⟩
   rw [if_neg c55] at H
   have c55b0 : (a1_0 == 1) = false := beq_eq_false_iff_ne.mpr c55
   have c55b1 : (a1_0 != 1) = true := bne_iff_ne.mpr c55
   by_cases c66 : a1_0 = 2
   ·rw [if_pos c66] at H
    exact absurd H (by simp)
   rw [if_neg c66] at H
   have c66b0 : (a1_0 == 2) = false := beq_eq_false_iff_ne.mpr c66
   have c66b1 : (a1_0 != 2) = true := bne_iff_ne.mpr c66
   by_cases c67 : a1_0 = 4
   ·rw [if_pos c67] at H
    exact absurd H (by simp)
   rw [if_neg c67] at H
   have c67b0 : (a1_0 == 4) = false := beq_eq_false_iff_ne.mpr c67
   have c67b1 : (a1_0 != 4) = true := bne_iff_ne.mpr c67
   by_cases c68 : a1_0 = 3
   rotate_left
   ·rw [if_neg c68] at H
    have c68b0 : (a1_0 == 3) = false := beq_eq_false_iff_ne.mpr c68
    have c68b1 : (a1_0 != 3) = true := bne_iff_ne.mpr c68
    simp only [Option.some.injEq, Prod.mk.injEq] at H
    obtain ⟨rfl, rfl, rfl, rfl⟩ := H
    have hnb102 := NB306_307.out
    have hnc102 := NB307_306.out
    have hnb103 := NB306_308.out
    have hnc103 := NB308_306.out
    obtain ⟨hcz104_0, hcz104_1, hcz104_2, hfz104_0, hfz104_1, hfz104_2⟩ := c3_ BK306
    have p54 : 0 ≤ (t314 : Int) := of_decide_eq_true (by first | (with_reducible assumption) | assumption)
    have q54 : (t314 : Int) < ((x307000_9.length : Int) : Int) := of_decide_eq_true (by first | (with_reducible assumption) | assumption)
    obtain ⟨go54, co54, eo54, gb54, gl54, cl54, HG54⟩ := Kd.R_form HO_307000.out (by omega)
    (first | cases eo54 | (injection eo54 with ea_ en_ ec_; (first | subst ea_ | (injection ea_ with ea_; subst ea_)); subst ec_; clear en_))
    have GB54 := Aside0.mk gb54
    have GG54 := Aside0.mk HG54
    clear gb54 gl54 HG54
    obtain ⟨ce54, hcl54, hM54, hcc54, hfr54⟩ := Kd.R_elem HO_307000.out z71 (t314 : Int) p54 q54
    obtain rfl := k71_openM hM54
    have hx54_0 : wc.cell? ⟨go54, (t314 : Int).toNat * 3, none⟩ = some (.string ((rd_T71 x307000_9 t314).f0)) := hcc54 0 _ rfl
    have hx54_1 : wc.cell? ⟨go54, (t314 : Int).toNat * 3 + 1, none⟩ = some (.string ((rd_T71 x307000_9 t314).f1)) := hcc54 1 _ rfl
    have hx54_2 : wc.cell? ⟨go54, (t314 : Int).toNat * 3 + 2, none⟩ = some (.int .i64 ((rd_T71 x307000_9 t314).f2)) := hcc54 2 _ rfl
    have hf54_0 : wc.frozen? ⟨go54, (t314 : Int).toNat * 3, none⟩ = false := hfr54 0
    have hf54_1 : wc.frozen? ⟨go54, (t314 : Int).toNat * 3 + 1, none⟩ = false := hfr54 1
    have hf54_2 : wc.frozen? ⟨go54, (t314 : Int).toNat * 3 + 2, none⟩ = false := hfr54 2
    clear hcl54 hcc54 hfr54 hM54
    replace p54 := eq_true p54
    replace q54 := eq_true q54
    have hnb105 := NB307_308.out
    have hnc105 := NB308_307.out
    obtain ⟨hcz106_0, hcz106_1, hcz106_2, hcz106_3, hcz106_4, hfz106_0, hfz106_1, hfz106_2, hfz106_3, hfz106_4⟩ := c5_ BK307
    obtain ⟨hcz107_0, hcz107_1, hcz107_2, hfz107_0, hfz107_1, hfz107_2⟩ := c3_ BK308
    go_wp2
    refine bodyPost_ret (results_ct rfl _ _ gb308 24 #[.slice (some ⟨go54, 0, none⟩) x307000_9.length co54, .bool false, .int .i64 a0_2] (0, 0) _ rfl (bp_0 BK308) Try.underlying24 rfl (by kernel_rfl)) rfl ?_
    exact ⟨_, by first | rfl | (simp; done) | (simp [*]; done), by (with_reducible repeat (first | apply Kd.R_alloc | apply Kd.R_drewN | apply Kd.R_drew)); exact Kd.R_mono (Kd.R_far (p := ⟨gb308, 2, none⟩) (Kd.R_far (p := ⟨gb308, 1, none⟩) (Kd.R_far (p := ⟨gb308, 0, none⟩) (Kd.R_types HO_307000.out BK308.out (by decide)) (fun _ hk => hk.2) (.slice (some ⟨go54, 0, none⟩) x307000_9.length co54)) (fun _ hk => hk.2) (.bool false)) (fun _ hk => hk.2) (.int .i64 a0_2)) (fun _ hk => trivial), bl_3 HB GE306 GE307 GE308⟩
   rw [if_pos c68] at H
   have c68b0 : (a1_0 == 3) = true := beq_iff_eq.mpr c68
   have c68b1 : (a1_0 != 3) = false := bne_eq_false_iff_eq.mpr c68
   clear c68
   obtain ⟨t328, A690, H⟩ := Option.bind_eq_some_iff.mp H
   try dsimp only at H
   have A69 := Aside0.mk A690
   clear A690
   obtain ⟨⟨t331, t332⟩, A700, H⟩ := Option.bind_eq_some_iff.mp H
   try dsimp only at H
   have A70 := Aside0.mk A700
   clear A700
   by_cases c71 : t332 = true
   ·subst c71
    have H1 : (none) = some (r1, r2, r3, r4) := by rw [if_pos rfl] at H; exact H
    clear H
    have H := H1
    clear H1
    exact absurd H (by simp)
   replace c71 := Bool.eq_false_iff.mpr c71
   subst c71
   have H1 : ((api_File_108.f t328 t331 (([(⟨a1_2, (rd_T71 x307000_9 t314).f1, (rd_T71 x307000_9 t314).f2⟩ : S71)] : List (S71)))).bind fun t336 => (some (t336, false, a0_2, 0))) = some (r1, r2, r3, r4) := by rw [if_neg (show ¬ (false = true) by decide)] at H; exact H
   clear H
   have H := H1
   clear H1
   obtain ⟨y333, hy333⟩ : ∃ y_ : List (S71), y_ = (([(⟨a1_2, (rd_T71 x307000_9 t314).f1, (rd_T71 x307000_9 t314).f2⟩ : S71)] : List (S71))) := ⟨_, rfl⟩
   replace H : ((api_File_108.f t328 t331 y333).bind fun t336 => (some (t336, false, a0_2, 0))) = some (r1, r2, r3, r4) := by first | (rw [hy333]; with_reducible exact H) | (have H2_ := (Option.bind_some _ _).symm.trans H; rw [hy333]; with_reducible exact H2_) | (have H2_ := (Option.bind_some _ _).symm.trans H; with_reducible exact H2_) | with_reducible exact H | (rw [hy333]; exact H) | exact H
   have Ny333 := Aside0.mk hy333
   clear hy333
   obtain ⟨t336, A720, H⟩ := Option.bind_eq_some_iff.mp H
   try dsimp only at H
   have A72 := Aside0.mk A720
   clear A720
   simp only [Option.some.injEq, Prod.mk.injEq] at H
   obtain ⟨rfl, rfl, rfl, rfl⟩ := H
   have hnb73 := NB306_307.out
   have hnc73 := NB307_306.out
   have hnb74 := NB306_308.out
   have hnc74 := NB308_306.out
   obtain ⟨hcz75_0, hcz75_1, hcz75_2, hfz75_0, hfz75_1, hfz75_2⟩ := c3_ BK306
   have p54 : 0 ≤ (t314 : Int) := of_decide_eq_true (by first | (with_reducible assumption) | assumption)
   have q54 : (t314 : Int) < ((x307000_9.length : Int) : Int) := of_decide_eq_true (by first | (with_reducible assumption) | assumption)
   obtain ⟨go54, co54, eo54, gb54, gl54, cl54, HG54⟩ := Kd.R_form HO_307000.out (by omega)
   (first | cases eo54 | (injection eo54 with ea_ en_ ec_; (first | subst ea_ | (injection ea_ with ea_; subst ea_)); subst ec_; clear en_))
   have GB54 := Aside0.mk gb54
   have GG54 := Aside0.mk HG54
   clear gb54 gl54 HG54
   obtain ⟨ce54, hcl54, hM54, hcc54, hfr54⟩ := Kd.R_elem HO_307000.out z71 (t314 : Int) p54 q54
   obtain rfl := k71_openM hM54
   have hx54_0 : wc.cell? ⟨go54, (t314 : Int).toNat * 3, none⟩ = some (.string ((rd_T71 x307000_9 t314).f0)) := hcc54 0 _ rfl
   have hx54_1 : wc.cell? ⟨go54, (t314 : Int).toNat * 3 + 1, none⟩ = some (.string ((rd_T71 x307000_9 t314).f1)) := hcc54 1 _ rfl
   have hx54_2 : wc.cell? ⟨go54, (t314 : Int).toNat * 3 + 2, none⟩ = some (.int .i64 ((rd_T71 x307000_9 t314).f2)) := hcc54 2 _ rfl
   have hf54_0 : wc.frozen? ⟨go54, (t314 : Int).toNat * 3, none⟩ = false := hfr54 0
   have hf54_1 : wc.frozen? ⟨go54, (t314 : Int).toNat * 3 + 1, none⟩ = false := hfr54 1
   have hf54_2 : wc.frozen? ⟨go54, (t314 : Int).toNat * 3 + 2, none⟩ = false := hfr54 2
   clear hcl54 hcc54 hfr54 hM54
   replace p54 := eq_true p54
   replace q54 := eq_true q54
   have hnb76 := NB307_308.out
   have hnc76 := NB308_307.out
   obtain ⟨hcz77_0, hcz77_1, hcz77_2, hcz77_3, hcz77_4, hfz77_0, hfz77_1, hfz77_2, hfz77_3, hfz77_4⟩ := c5_ BK307
   have p326 : 0 ≤ (t314 : Int) := of_decide_eq_true (by first | (with_reducible assumption) | assumption)
   have q326 : t314 < (x307000_9.length : Int) := of_decide_eq_true (by first | (with_reducible assumption) | assumption)
   obtain ⟨ad326, e326, hx326_0, hx326_1, hx326_2⟩ := at_T71 (Kd.R_reads' HO_307000.out).2.2 t314 p326 q326
   obtain rfl : (⟨go54, 0, none⟩ : Addr) = ad326 := (by injection e326)
   (first | simp only [add_plain] at hx326_0 | simp only [add_at] at hx326_0 | simp only [Addr.add, Nat.zero_add] at hx326_0 | skip)
   (first | simp only [add_plain] at hx326_1 | simp only [add_at] at hx326_1 | simp only [Addr.add, Nat.zero_add] at hx326_1 | skip)
   (first | simp only [add_plain] at hx326_2 | simp only [add_at] at hx326_2 | simp only [Addr.add, Nat.zero_add] at hx326_2 | skip)
   replace p326 := eq_true p326
   replace q326 := eq_true q326
   go_wp2_with (first | ((with_reducible refine gate_dst (N := 11) rfl ?_); refine bx_ 11 #[.string (⟨#[]⟩ : ByteArray), .string (⟨#[]⟩ : ByteArray), .int .i64 0] 71 ?_; intro gb327 hg w78 hbox hb; replace HO_307000 := Aside0.mk (Kd.R_below (Kd.R_elderB (by (with_reducible repeat (first | apply Kd.R_alloc | apply Kd.R_drewN | apply Kd.R_drew)); exact HO_307000.out) gb327 (Nat.le_of_eq hg.symm)) hb); have BK327 := Aside0.mk (hbox); have GE327 := Aside0.mk (bs_3 hg HB GE306 GE307 GE308); replace HB := Aside0.mk (below_step (bl_3 HB GE306 GE307 GE308) hb); have NB306_327 := Aside0.mk (nb_ hg BK306); have NB327_306 := Aside0.mk (nc_ hg BK306); replace BK306 := Aside0.mk (bb_ BK306 hb); have NB307_327 := Aside0.mk (nb_ hg BK307); have NB327_307 := Aside0.mk (nc_ hg BK307); replace BK307 := Aside0.mk (bb_ BK307 hb); have NB308_327 := Aside0.mk (nb_ hg BK308); have NB327_308 := Aside0.mk (nc_ hg BK308); replace BK308 := Aside0.mk (bb_ BK308 hb); clear hb hbox hg; have hnb79 := NB327_306.out; have hnc79 := NB306_327.out; have hnb80 := NB327_307.out; have hnc80 := NB307_327.out; have hnb81 := NB327_308.out; have hnc81 := NB308_327.out; obtain ⟨hcz82_0, hcz82_1, hcz82_2, hfz82_0, hfz82_1, hfz82_2⟩ := c3_ BK327) | ((with_reducible refine gate_store (t := 71) (p := 11) rfl ?_); refine store_event (t := 71) (p := 11) (v := ?vo_w83) (w1 := (((w78.setCell ⟨gb327, 0, none⟩ (.string ((rd_T71 x307000_9 t314).f0))).setCell ⟨gb327, 1, none⟩ (.string ((rd_T71 x307000_9 t314).f1))).setCell ⟨gb327, 2, none⟩ (.int .i64 ((rd_T71 x307000_9 t314).f2)))) ?hg ?ho ?hn ?hr ?_; (case ho => rfl); (case hg => rfl); (case hn => rfl); (case hr => first | (go_simp; done) | (go_simp; rfl)); intro w83 hw; have n0_ : Aside0 (Kd.R k71 71 w83 w.heap.size (fun k_ => k_ ≠ gb327) (.slice (some ⟨go54, 0, none⟩) x307000_9.length co54) x307000_9) := ⟨(by rw [hw]; exact (by (with_reducible repeat (first | apply Kd.R_alloc | apply Kd.R_drewN | apply Kd.R_drew)); exact Kd.R_mono (Kd.R_far (p := ⟨gb327, 2, none⟩) (Kd.R_far (p := ⟨gb327, 1, none⟩) (Kd.R_far (p := ⟨gb327, 0, none⟩) (Kd.R_mono HO_307000.out (fun k_ hk => (⟨hk, hk.2⟩ : _ ∧ k_ ≠ gb327))) (fun _ hk => hk.2) (.string ((rd_T71 x307000_9 t314).f0))) (fun _ hk => hk.2) (.string ((rd_T71 x307000_9 t314).f1))) (fun _ hk => hk.2) (.int .i64 ((rd_T71 x307000_9 t314).f2))) (fun _ hk => hk.1.2)))⟩; have n1_ : Aside0 (w83.heap[gb306]? = some (.cells #[.slice (some ⟨go54, 0, none⟩) x307000_9.length co54, .bool false, .int .i64 a0_2] 24 (0, 0))) := ⟨(by rw [hw]; exact (bp_1 BK306 NB306_327))⟩; have n2_ : Aside0 (w83.heap[gb307]? = some (.cells #[.int .u8 a1_0, .string a1_1, .string a1_2, .string a1_3, .int .i64 a1_4] 115 (0, 0))) := ⟨(by rw [hw]; exact (bp_1 BK307 NB307_327))⟩; have n3_ : Aside0 (w83.heap[gb308]? = some (.cells #[.slice none 0 0, .bool false, .int .i64 0] 24 (0, 0))) := ⟨(by rw [hw]; exact (bp_1 BK308 NB308_327))⟩; have n4_ : Aside0 (w83.heap[gb327]? = some (.cells #[.string ((rd_T71 x307000_9 t314).f0), .string ((rd_T71 x307000_9 t314).f1), .int .i64 ((rd_T71 x307000_9 t314).f2)] 71 (0, 0))) := ⟨(by rw [hw]; exact (bp_0 BK327))⟩; have n5_ : Aside0 (Below w.heap.size w w83) := ⟨(by rw [hw]; exact (bl_4 HB GE306 GE307 GE308 GE327))⟩; clear hw; clear HO_307000; clear BK306; clear BK307; clear BK308; clear BK327; clear HB; have HO_307000 := n0_; have BK306 := n1_; have BK307 := n2_; have BK308 := n3_; have BK327 := n4_; have HB := n5_; clear n0_ n1_ n2_ n3_ n4_ n5_; obtain ⟨hcz84_0, hcz84_1, hcz84_2, hcz84_3, hcz84_4, hfz84_0, hfz84_1, hfz84_2, hfz84_3, hfz84_4⟩ := c5_ BK307; obtain ⟨hcz85_0, hcz85_1, hcz85_2, hfz85_0, hfz85_1, hfz85_2⟩ := c3_ BK327) | ((with_reducible refine gate_store (t := 9) (p := 132) rfl ?_); refine store_event (t := 9) (p := 132) (v := ?vo_w86) (w1 := (w83.setCell ⟨gb327, 0, none⟩ (.string a1_2))) ?hg ?ho ?hn ?hr ?_; (case ho => rfl); (case hg => rfl); (case hn => rfl); (case hr => first | (go_simp; done) | (go_simp; rfl)); intro w86 hw; have n0_ : Aside0 (Kd.R k71 71 w86 w.heap.size (fun k_ => k_ ≠ gb327) (.slice (some ⟨go54, 0, none⟩) x307000_9.length co54) x307000_9) := ⟨(by rw [hw]; exact (by (with_reducible repeat (first | apply Kd.R_alloc | apply Kd.R_drewN | apply Kd.R_drew)); exact Kd.R_mono (Kd.R_far (p := ⟨gb327, 0, none⟩) (Kd.R_mono HO_307000.out (fun k_ hk => (⟨hk, hk⟩ : _ ∧ k_ ≠ gb327))) (fun _ hk => hk.2) (.string a1_2)) (fun _ hk => hk.1)))⟩; have n1_ : Aside0 (w86.heap[gb306]? = some (.cells #[.slice (some ⟨go54, 0, none⟩) x307000_9.length co54, .bool false, .int .i64 a0_2] 24 (0, 0))) := ⟨(by rw [hw]; exact (bp_1 BK306 NB306_327))⟩; have n2_ : Aside0 (w86.heap[gb307]? = some (.cells #[.int .u8 a1_0, .string a1_1, .string a1_2, .string a1_3, .int .i64 a1_4] 115 (0, 0))) := ⟨(by rw [hw]; exact (bp_1 BK307 NB307_327))⟩; have n3_ : Aside0 (w86.heap[gb308]? = some (.cells #[.slice none 0 0, .bool false, .int .i64 0] 24 (0, 0))) := ⟨(by rw [hw]; exact (bp_1 BK308 NB308_327))⟩; have n4_ : Aside0 (w86.heap[gb327]? = some (.cells #[.string a1_2, .string ((rd_T71 x307000_9 t314).f1), .int .i64 ((rd_T71 x307000_9 t314).f2)] 71 (0, 0))) := ⟨(by rw [hw]; exact (bp_0 BK327))⟩; have n5_ : Aside0 (Below w.heap.size w w86) := ⟨(by rw [hw]; exact (bl_4 HB GE306 GE307 GE308 GE327))⟩; clear hw; clear HO_307000; clear BK306; clear BK307; clear BK308; clear BK327; clear HB; have HO_307000 := n0_; have BK306 := n1_; have BK307 := n2_; have BK308 := n3_; have BK327 := n4_; have HB := n5_; clear n0_ n1_ n2_ n3_ n4_ n5_; obtain ⟨hcz87_0, hcz87_1, hcz87_2, hfz87_0, hfz87_1, hfz87_2⟩ := c3_ BK306) | ((with_reducible refine gate_callee (f := 109) rfl ?_); refine goesL_ (some 138) rfl rfl Try.func109 (by kernel_rfl) rfl #[.slice (some ⟨go54, 0, none⟩) x307000_9.length co54, .int .i64 t314, .int .i64 (wrap64 (t314 + 1))] rfl (ar_) ?_; (with_reducible refine (api_File_109.calls (fun k_ => some k_ = (.slice (some ⟨go54, 0, none⟩) x307000_9.length co54 : Value).ownBlock) (.slice (some ⟨go54, 0, none⟩) x307000_9.length co54) x307000_9 t314 (wrap64 (t314 + 1)) t328 w _ ?side1 ?side2 A69.out).mono ?_); (case side1 => repeat (first | (with_reducible first | exact HB.out | apply below_alloc | apply pw_below_drewN | apply below_drew1 | refine below_set ?_ GE306.out | refine below_set ?_ GE307.out | refine below_set ?_ GE308.out | refine below_set ?_ GE327.out) | exact HB.out)); (case side2 => exact Kd.R_tight rfl HO_307000.out); rintro e w88 ⟨v329, rfl, ho0, hb, hkp⟩; refine ⟨_, rfl, ?_⟩; replace BK306 := Aside0.mk (blk_kept (bk_ BK306) hkp (fun hs_ => (fun e_ => (Kd.R_ne HO_307000.out BK306.out (by decide)) e_) hs_)); replace BK307 := Aside0.mk (blk_kept (bk_ BK307) hkp (fun hs_ => (fun e_ => (Kd.R_ne HO_307000.out BK307.out (by decide)) e_) hs_)); replace BK308 := Aside0.mk (blk_kept (bk_ BK308) hkp (fun hs_ => (fun e_ => (Kd.R_ne HO_307000.out BK308.out (by decide)) e_) hs_)); have HO330 := Aside0.mk (Kd.R_mono (ok' := fun k_ => k_ ≠ gb327) ho0 (fun k_ hk_ => Or.elim hk_ (fun hs_ => fun e_ => (Kd.R_away HO_307000.out (fun _ hk => hk)) (by rw [← e_]; exact hs_)) (fun hn_ => (Kd.freshB (g := gb327) (o := .cells #[.string a1_2, .string ((rd_T71 x307000_9 t314).f1), .int .i64 ((rd_T71 x307000_9 t314).f2)] 71 (0, 0)) (bk_ BK327) k_ hn_)))); replace BK327 := Aside0.mk (blk_kept (bk_ BK327) hkp (fun hs_ => (fun e_ => (Kd.R_away HO_307000.out (fun _ hk => hk)) e_) hs_)); replace HB := Aside0.mk (hb); clear HO_307000; (try clear hb); (try clear hkp); (try clear ho0); obtain ⟨Ao89, co89, eo89⟩ := Kd.R_slice HO330.out; subst eo89; obtain ⟨hcz90_0, hcz90_1, hcz90_2, hfz90_0, hfz90_1, hfz90_2⟩ := c3_ BK306; obtain ⟨hcz91_0, hcz91_1, hcz91_2, hcz91_3, hcz91_4, hfz91_0, hfz91_1, hfz91_2, hfz91_3, hfz91_4⟩ := c5_ BK307) | ((with_reducible refine gate_callee (f := 50) rfl ?_); refine goesL_ (some 144) rfl rfl Try.func50 (by kernel_rfl) rfl #[.agg #[.slice Ao89 t328.length co89, .bool false, .int .i64 a0_2], .string a1_2] rfl (ar_) ?_; (with_reducible refine (disk_place.calls kj9 _ _ t328 false a0_2 a1_2 t331 false _ ?side1 ?side2 A70.out).mono ?_); (case side1 => refine (Kd.R_reads' (e := 71) (base := w.heap.size) (ok := fun k_ => k_ ≠ gb327) (n := t328.length) (c := co89) ?_).2.2; exact (by (with_reducible repeat (first | apply Kd.R_alloc | apply Kd.R_drewN | apply Kd.R_drew)); exact (Kd.R_mono (Kd.R_far (p := ⟨gb306, 0, none⟩) (Kd.R_types HO330.out BK306.out (by decide)) (fun _ hk => hk.2) (.slice Ao89 t328.length co89)) (fun _ h_ => h_.1)))); (case side2 => exact (Kd.R_reads' HO330.out).2.1); rintro e w92 ⟨rfl, hb⟩; refine ⟨_, rfl, ?_⟩; replace HO330 := Aside0.mk (Kd.R_below (by (with_reducible repeat (first | apply Kd.R_alloc | apply Kd.R_drewN | apply Kd.R_drew)); exact (Kd.R_mono (Kd.R_far (p := ⟨gb306, 0, none⟩) (Kd.R_types HO330.out BK306.out (by decide)) (fun _ hk => hk.2) (.slice Ao89 t328.length co89)) (fun _ h_ => h_.1))) hb); replace BK306 := Aside0.mk (blk_below (g := gb306) (o := .cells #[.slice Ao89 t328.length co89, .bool false, .int .i64 a0_2] 24 (0, 0)) (bp_0 BK306) hb); replace BK307 := Aside0.mk (blk_below (g := gb307) (o := .cells #[.int .u8 a1_0, .string a1_1, .string a1_2, .string a1_3, .int .i64 a1_4] 115 (0, 0)) (bp_1 BK307 NB307_306) hb); replace BK308 := Aside0.mk (blk_below (g := gb308) (o := .cells #[.slice none 0 0, .bool false, .int .i64 0] 24 (0, 0)) (bp_1 BK308 NB308_306) hb); replace BK327 := Aside0.mk (blk_below (g := gb327) (o := .cells #[.string a1_2, .string ((rd_T71 x307000_9 t314).f1), .int .i64 ((rd_T71 x307000_9 t314).f2)] 71 (0, 0)) (bp_1 BK327 NB327_306) hb); replace HB := Aside0.mk (below_step (bl_4 HB GE306 GE307 GE308 GE327) hb); (try clear hb); obtain ⟨hcz93_0, hcz93_1, hcz93_2, hfz93_0, hfz93_1, hfz93_2⟩ := c3_ BK306; obtain ⟨hcz94_0, hcz94_1, hcz94_2, hfz94_0, hfz94_1, hfz94_2⟩ := c3_ BK327) | ((with_reducible refine gate_dst (N := 157) rfl ?_); refine Kd.R_lit k71 _ 71 ?hg (N := 157) ?hd (xs := ([(⟨a1_2, (rd_T71 x307000_9 t314).f1, (rd_T71 x307000_9 t314).f2⟩ : S71)] : List (S71))) (inner := [.string a1_2, .string ((rd_T71 x307000_9 t314).f1), .int .i64 ((rd_T71 x307000_9 t314).f2)]) (ok := fun _ => True) (okp := fun _ => True) ?hr ?hp (fun _ hk => hk) trivial (Below.refl _ _) (Nat.le_refl _) (by simp) ?_; (case hd => rfl); (case hg => rfl); (case hr => first | (go_simp; done) | (go_simp; rfl)); (case hp => exact (Reps.c3 (show Kd.M k71 _ _ _ (⟨a1_2, (rd_T71 x307000_9 t314).f1, (rd_T71 x307000_9 t314).f2⟩ : S71) [.string a1_2, .string ((rd_T71 x307000_9 t314).f1), .int .i64 ((rd_T71 x307000_9 t314).f2)] from (k71_mkM _ _ _ (⟨a1_2, (rd_T71 x307000_9 t314).f1, (rd_T71 x307000_9 t314).f2⟩ : S71) )) (Reps.none _ _))); intro v334 w95 ho96 hb hg_ hnew_; clear hg_ hnew_; (first | rw [← Ny333.out] at ho96 | (simp only [Int.reduceToNat] at ho96; rw [← Ny333.out] at ho96)); have HO335 := Aside0.mk (Kd.R_lower (Kd.R_newB (Kd.R_new' ho96 (Kd.R_lt (by (with_reducible repeat (first | apply Kd.R_alloc | apply Kd.R_drewN | apply Kd.R_drew)); exact HO330.out))) (g := gb327) (o := .cells #[.string a1_2, .string ((rd_T71 x307000_9 t314).f1), .int .i64 ((rd_T71 x307000_9 t314).f2)] 71 (0, 0)) (bk_ BK327)) (below_size (bl_4 HB GE306 GE307 GE308 GE327))); replace HO330 := Aside0.mk (Kd.R_elder' (by (with_reducible repeat (first | apply Kd.R_alloc | apply Kd.R_drewN | apply Kd.R_drew)); exact HO330.out) (Kd.R_base ho96) hb); replace BK306 := Aside0.mk (bb_ BK306 hb); replace BK307 := Aside0.mk (bb_ BK307 hb); replace BK308 := Aside0.mk (bb_ BK308 hb); replace BK327 := Aside0.mk (bb_ BK327 hb); replace HB := Aside0.mk (below_step (bl_4 HB GE306 GE307 GE308 GE327) hb); clear hb ho96; obtain ⟨Ao97, co97, eo97⟩ := Kd.R_slice HO335.out; subst eo97) | ((with_reducible refine gate_callee (f := 108) rfl ?_); refine goesL_ (some 158) rfl rfl Try.func108 (by kernel_rfl) rfl #[.slice Ao89 t328.length co89, .int .i64 t331, .slice Ao97 y333.length co97] rfl (ar_) ?_; (with_reducible refine (api_File_108.calls (fun k_ => some k_ = (.slice Ao89 t328.length co89 : Value).ownBlock) (.slice Ao89 t328.length co89) t328 t331 (fun k_ => some k_ = (.slice Ao97 y333.length co97 : Value).ownBlock) (.slice Ao97 y333.length co97) y333 t336 w _ ?side1 ?side2 ?side3 ?side4 ?side5 A72.out).mono ?_); (case side1 => repeat (first | (with_reducible first | exact HB.out | apply below_alloc | apply pw_below_drewN | apply below_drew1 | refine below_set ?_ GE306.out | refine below_set ?_ GE307.out | refine below_set ?_ GE308.out | refine below_set ?_ GE327.out) | exact HB.out)); (case side2 => exact Kd.R_tight rfl HO330.out); (case side3 => exact fun k_ e_ => (HO330.out.1 k_ e_.symm).2); (case side4 => exact Kd.R_tight rfl HO335.out); (case side5 => exact fun k_ e_ => (HO335.out.1 k_ e_.symm).1.2); rintro e w98 ⟨v337, rfl, ho0, hb, hkp⟩; refine ⟨_, rfl, ?_⟩; replace BK306 := Aside0.mk (blk_kept (bk_ BK306) hkp (fun hs_ => Or.elim hs_ (fun e_ => (fun e_ => (Kd.R_ne HO330.out BK306.out (by decide)) e_) e_) (fun e_ => (fun e_ => (Kd.R_ne HO335.out BK306.out (by decide)) e_) e_))); replace BK307 := Aside0.mk (blk_kept (bk_ BK307) hkp (fun hs_ => Or.elim hs_ (fun e_ => (fun e_ => (Kd.R_ne HO330.out BK307.out (by decide)) e_) e_) (fun e_ => (fun e_ => (Kd.R_ne HO335.out BK307.out (by decide)) e_) e_))); replace BK308 := Aside0.mk (blk_kept (bk_ BK308) hkp (fun hs_ => Or.elim hs_ (fun e_ => (fun e_ => (Kd.R_ne HO330.out BK308.out (by decide)) e_) e_) (fun e_ => (fun e_ => (Kd.R_ne HO335.out BK308.out (by decide)) e_) e_))); have HO338 := Aside0.mk (Kd.R_mono (ok' := fun k_ => k_ ≠ gb327) ho0 (fun k_ hk_ => Or.elim hk_ (fun hs_ => Or.elim hs_ (fun hs_ => fun e_ => (Kd.R_away HO330.out (fun _ hk => hk.1)) (by rw [← e_]; exact hs_)) (fun hs_ => fun e_ => (Kd.R_away HO335.out (fun _ hk => hk.2)) (by rw [← e_]; exact hs_))) (fun hn_ => (Kd.freshB (g := gb327) (o := .cells #[.string a1_2, .string ((rd_T71 x307000_9 t314).f1), .int .i64 ((rd_T71 x307000_9 t314).f2)] 71 (0, 0)) (bk_ BK327) k_ hn_)))); replace BK327 := Aside0.mk (blk_kept (bk_ BK327) hkp (fun hs_ => Or.elim hs_ (fun e_ => (fun e_ => (Kd.R_away HO330.out (fun _ hk => hk.1)) e_) e_) (fun e_ => (fun e_ => (Kd.R_away HO335.out (fun _ hk => hk.2)) e_) e_))); replace HB := Aside0.mk (hb); clear HO330; clear HO335; (try clear hb); (try clear hkp); (try clear ho0); obtain ⟨Ao99, co99, eo99⟩ := Kd.R_slice HO338.out; subst eo99; obtain ⟨hcz100_0, hcz100_1, hcz100_2, hfz100_0, hfz100_1, hfz100_2⟩ := c3_ BK306; obtain ⟨hcz101_0, hcz101_1, hcz101_2, hfz101_0, hfz101_1, hfz101_2⟩ := c3_ BK308))
   refine bodyPost_ret (results_ct rfl _ _ gb308 24 #[.slice Ao99 t336.length co99, .bool false, .int .i64 a0_2] (0, 0) _ rfl (bp_1 BK308 NB308_306) Try.underlying24 rfl (by kernel_rfl)) rfl ?_
   exact ⟨_, by first | rfl | (simp; done) | (simp [*]; done), by (with_reducible repeat (first | apply Kd.R_alloc | apply Kd.R_drewN | apply Kd.R_drew)); exact Kd.R_mono (Kd.R_far (p := ⟨gb308, 2, none⟩) (Kd.R_far (p := ⟨gb308, 1, none⟩) (Kd.R_far (p := ⟨gb308, 0, none⟩) (Kd.R_far (p := ⟨gb306, 0, none⟩) (Kd.R_types (Kd.R_types HO338.out BK306.out (by decide)) BK308.out (by decide)) (fun _ hk => hk.1.2) (.slice Ao99 t336.length co99)) (fun _ hk => hk.2) (.slice Ao99 t336.length co99)) (fun _ hk => hk.2) (.bool false)) (fun _ hk => hk.2) (.int .i64 a0_2)) (fun _ hk => trivial), bl_4 HB GE306 GE307 GE308 GE327⟩
/-! ### disk_Drop: function 67 -/
def disk_Drop.f (k : Nat) (l0_0 : List (S71)) (a0_1 : Bool) (a0_2 : Int) (a1 : ByteArray) : Option ((List (S71)) × Bool × Int × Int) := (disk_done.f k l0_0 a0_1 a0_2 4 a1 (⟨#[]⟩ : ByteArray) (⟨#[]⟩ : ByteArray) 0).bind fun bt341 => (some (bt341.1, bt341.2.1, bt341.2.2.1, bt341.2.2.2))
theorem disk_Drop.mono : ∀ a0 a1 a2 a3 k, LeO (disk_Drop.f k a0 a1 a2 a3) (disk_Drop.f (k + 1) a0 a1 a2 a3) := by
 intro a0 a1 a2 a3 k
 unfold disk_Drop.f
 repeat' first | (with_reducible first | exact disk_done.mono _ _ _ _ _ _ _ _ _ | exact LeO.refl _ | exact LeO.none _ | refine LeO.ite ?_ ?_ | refine LeO.bind ?_ (fun _ => ?_)) | exact disk_done.mono _ _ _ _ _ _ _ _ _ | exact LeO.none _ | refine LeO.ite ?_ ?_ | refine LeO.bind ?_ (fun _ => ?_)
set_option maxHeartbeats 80000000 in
set_option maxRecDepth 100000 in
theorem disk_Drop.calls (k : Nat) (A0_0 : Option Addr) (c0_0 : Nat) (l0_0 : List (S71)) (a0_1 : Bool) (a0_2 : Int) (a1 : ByteArray) (r1 : List (S71)) (r2 : Bool) (r3 : Int) (r4 : Int) (w : World) (hr0_0 : Kd.C k71 w A0_0 l0_0.length l0_0) (hc0_0 : l0_0.length ≤ c0_0) (h : disk_Drop.f k l0_0 a0_1 a0_2 a1 = some (r1, r2, r3, r4)) :
  Calls Try.prog 67 #[.agg #[.slice A0_0 l0_0.length c0_0, .bool a0_1, .int .i64 a0_2], .string a1] w fun e w' => ∃ v0_ : Value, e = .returned (.tuple #[.agg #[v0_, .bool r2, .int .i64 r3], .int .i64 r4]) ∧ Kd.R k71 71 w' w.heap.size (fun _ => True) v0_ r1 ∧ Below w.heap.size w w' := by
 have hu24 := Try.underlying24
 have hu115 := Try.underlying115
 have HR0_0 := Aside0.mk hr0_0
 have HC0_0 := Aside0.mk hc0_0
 clear hr0_0 hc0_0
 have HB := Aside0.mk (Below.refl w.heap.size w)
 have H : ((disk_done.f k l0_0 a0_1 a0_2 4 a1 (⟨#[]⟩ : ByteArray) (⟨#[]⟩ : ByteArray) 0).bind fun bt341 => (some (bt341.1, bt341.2.1, bt341.2.2.1, bt341.2.2.2))) = some (r1, r2, r3, r4) := h
 clear h
 obtain ⟨⟨t341, t344, t345, t346⟩, A30, H⟩ := Option.bind_eq_some_iff.mp H
 try dsimp only at H
 have A3 := Aside0.mk A30
 clear A30
 simp only [Option.some.injEq, Prod.mk.injEq] at H
 obtain ⟨rfl, rfl, rfl, rfl⟩ := H
 go_enter Try.func67, Try.ntmps67
 go_wp2_with (first | ((with_reducible refine gate_dst (N := 2) rfl ?_); refine bx_ 2 #[.slice A0_0 l0_0.length c0_0, .bool a0_1, .int .i64 a0_2] 24 ?_; intro gb339 hg w4 hbox hb; have BK339 := Aside0.mk (hbox); have GE339 := Aside0.mk (bs_0 hg HB); replace HB := Aside0.mk (below_step (bl_ HB) hb); clear hb hbox hg) | ((with_reducible refine gate_dst (N := 4) rfl ?_); refine bx_ 4 #[.slice none 0 0, .bool false, .int .i64 0] 24 ?_; intro gb340 hg w5 hbox hb; have BK340 := Aside0.mk (hbox); have GE340 := Aside0.mk (bs_1 hg HB GE339); replace HB := Aside0.mk (below_step (bl_1 HB GE339) hb); have NB339_340 := Aside0.mk (nb_ hg BK339); have NB340_339 := Aside0.mk (nc_ hg BK339); replace BK339 := Aside0.mk (bb_ BK339 hb); clear hb hbox hg; have hnb6 := NB339_340.out; have hnc6 := NB340_339.out; obtain ⟨hcz7_0, hcz7_1, hcz7_2, hfz7_0, hfz7_1, hfz7_2⟩ := c3_ BK339) | ((with_reducible refine gate_callee (f := 96) rfl ?_); refine goesL_ (some 9) rfl rfl Try.func96 (by kernel_rfl) rfl #[.agg #[.slice A0_0 l0_0.length c0_0, .bool a0_1, .int .i64 a0_2], .agg #[.int .u8 4, .string a1, .string (⟨#[]⟩ : ByteArray), .string (⟨#[]⟩ : ByteArray), .int .i64 0]] rfl (ar_) ?_; (with_reducible refine (disk_done.calls k _ _ l0_0 a0_1 a0_2 4 a1 (⟨#[]⟩ : ByteArray) (⟨#[]⟩ : ByteArray) 0 t341 t344 t345 t346 _ ?side1 ?side2 A3.out).mono ?_); (case side1 => exact cl_ (Kd.C_below HR0_0.out HB.out)); (case side2 => exact HC0_0.out); rintro e w8 ⟨v342, rfl, ho0, hb⟩; refine ⟨_, rfl, ?_⟩; have HO343 := Aside0.mk (Kd.R_lower ho0 (below_size (bl_2 HB GE339 GE340))); replace BK339 := Aside0.mk (bb_ BK339 hb); replace BK340 := Aside0.mk (bb_ BK340 hb); replace HB := Aside0.mk (below_step (bl_2 HB GE339 GE340) hb); (try clear hb); (try clear ho0); obtain ⟨Ao9, co9, eo9⟩ := Kd.R_slice HO343.out; subst eo9; obtain ⟨hcz10_0, hcz10_1, hcz10_2, hfz10_0, hfz10_1, hfz10_2⟩ := c3_ BK340))
 refine bodyPost_ret (results_ct rfl _ _ gb340 24 #[.slice Ao9 t341.length co9, .bool t344, .int .i64 t345] (0, 0) _ rfl (bp_0 BK340) Try.underlying24 rfl (by kernel_rfl)) rfl ?_
 exact ⟨_, by first | rfl | (simp; done) | (simp [*]; done), by (with_reducible repeat (first | apply Kd.R_alloc | apply Kd.R_drewN | apply Kd.R_drew)); exact Kd.R_mono (Kd.R_far (p := ⟨gb340, 2, none⟩) (Kd.R_far (p := ⟨gb340, 1, none⟩) (Kd.R_far (p := ⟨gb340, 0, none⟩) (Kd.R_types HO343.out BK340.out (by decide)) (fun _ hk => hk.2) (.slice Ao9 t341.length co9)) (fun _ hk => hk.2) (.bool t344)) (fun _ hk => hk.2) (.int .i64 t345)) (fun _ hk => trivial), bl_2 HB GE339 GE340⟩

/-! ### disk_Add: function 70 -/
def disk_Add.f (k : Nat) (l0_0 : List (S71)) (a0_1 : Bool) (a0_2 : Int) (a1 : ByteArray) (a2 : ByteArray) : Option ((List (S71)) × Bool × Int × Int) := (disk_done.f k l0_0 a0_1 a0_2 0 a1 (⟨#[]⟩ : ByteArray) a2 0).bind fun bt349 => (some (bt349.1, bt349.2.1, bt349.2.2.1, bt349.2.2.2))
theorem disk_Add.mono : ∀ a0 a1 a2 a3 a4 k, LeO (disk_Add.f k a0 a1 a2 a3 a4) (disk_Add.f (k + 1) a0 a1 a2 a3 a4) := by
 intro a0 a1 a2 a3 a4 k
 unfold disk_Add.f
 repeat' first | (with_reducible first | exact disk_done.mono _ _ _ _ _ _ _ _ _ | exact LeO.refl _ | exact LeO.none _ | refine LeO.ite ?_ ?_ | refine LeO.bind ?_ (fun _ => ?_)) | exact disk_done.mono _ _ _ _ _ _ _ _ _ | exact LeO.none _ | refine LeO.ite ?_ ?_ | refine LeO.bind ?_ (fun _ => ?_)
set_option maxHeartbeats 80000000 in
set_option maxRecDepth 100000 in
theorem disk_Add.calls (k : Nat) (A0_0 : Option Addr) (c0_0 : Nat) (l0_0 : List (S71)) (a0_1 : Bool) (a0_2 : Int) (a1 : ByteArray) (a2 : ByteArray) (r1 : List (S71)) (r2 : Bool) (r3 : Int) (r4 : Int) (w : World) (hr0_0 : Kd.C k71 w A0_0 l0_0.length l0_0) (hc0_0 : l0_0.length ≤ c0_0) (h : disk_Add.f k l0_0 a0_1 a0_2 a1 a2 = some (r1, r2, r3, r4)) :
  Calls Try.prog 70 #[.agg #[.slice A0_0 l0_0.length c0_0, .bool a0_1, .int .i64 a0_2], .string a1, .string a2] w fun e w' => ∃ v0_ : Value, e = .returned (.tuple #[.agg #[v0_, .bool r2, .int .i64 r3], .int .i64 r4]) ∧ Kd.R k71 71 w' w.heap.size (fun _ => True) v0_ r1 ∧ Below w.heap.size w w' := by
 have hu24 := Try.underlying24
 have hu115 := Try.underlying115
 have HR0_0 := Aside0.mk hr0_0
 have HC0_0 := Aside0.mk hc0_0
 clear hr0_0 hc0_0
 have HB := Aside0.mk (Below.refl w.heap.size w)
 have H : ((disk_done.f k l0_0 a0_1 a0_2 0 a1 (⟨#[]⟩ : ByteArray) a2 0).bind fun bt349 => (some (bt349.1, bt349.2.1, bt349.2.2.1, bt349.2.2.2))) = some (r1, r2, r3, r4) := h
 clear h
 obtain ⟨⟨t349, t352, t353, t354⟩, A40, H⟩ := Option.bind_eq_some_iff.mp H
 try dsimp only at H
 have A4 := Aside0.mk A40
 clear A40
 simp only [Option.some.injEq, Prod.mk.injEq] at H
 obtain ⟨rfl, rfl, rfl, rfl⟩ := H
 go_enter Try.func70, Try.ntmps70
 go_wp2_with (first | ((with_reducible refine gate_dst (N := 3) rfl ?_); refine bx_ 3 #[.slice A0_0 l0_0.length c0_0, .bool a0_1, .int .i64 a0_2] 24 ?_; intro gb347 hg w5 hbox hb; have BK347 := Aside0.mk (hbox); have GE347 := Aside0.mk (bs_0 hg HB); replace HB := Aside0.mk (below_step (bl_ HB) hb); clear hb hbox hg) | ((with_reducible refine gate_dst (N := 6) rfl ?_); refine bx_ 6 #[.slice none 0 0, .bool false, .int .i64 0] 24 ?_; intro gb348 hg w6 hbox hb; have BK348 := Aside0.mk (hbox); have GE348 := Aside0.mk (bs_1 hg HB GE347); replace HB := Aside0.mk (below_step (bl_1 HB GE347) hb); have NB347_348 := Aside0.mk (nb_ hg BK347); have NB348_347 := Aside0.mk (nc_ hg BK347); replace BK347 := Aside0.mk (bb_ BK347 hb); clear hb hbox hg; have hnb7 := NB347_348.out; have hnc7 := NB348_347.out; obtain ⟨hcz8_0, hcz8_1, hcz8_2, hfz8_0, hfz8_1, hfz8_2⟩ := c3_ BK347) | ((with_reducible refine gate_callee (f := 96) rfl ?_); refine goesL_ (some 12) rfl rfl Try.func96 (by kernel_rfl) rfl #[.agg #[.slice A0_0 l0_0.length c0_0, .bool a0_1, .int .i64 a0_2], .agg #[.int .u8 0, .string a1, .string (⟨#[]⟩ : ByteArray), .string a2, .int .i64 0]] rfl (ar_) ?_; (with_reducible refine (disk_done.calls k _ _ l0_0 a0_1 a0_2 0 a1 (⟨#[]⟩ : ByteArray) a2 0 t349 t352 t353 t354 _ ?side1 ?side2 A4.out).mono ?_); (case side1 => exact cl_ (Kd.C_below HR0_0.out HB.out)); (case side2 => exact HC0_0.out); rintro e w9 ⟨v350, rfl, ho0, hb⟩; refine ⟨_, rfl, ?_⟩; have HO351 := Aside0.mk (Kd.R_lower ho0 (below_size (bl_2 HB GE347 GE348))); replace BK347 := Aside0.mk (bb_ BK347 hb); replace BK348 := Aside0.mk (bb_ BK348 hb); replace HB := Aside0.mk (below_step (bl_2 HB GE347 GE348) hb); (try clear hb); (try clear ho0); obtain ⟨Ao10, co10, eo10⟩ := Kd.R_slice HO351.out; subst eo10; obtain ⟨hcz11_0, hcz11_1, hcz11_2, hfz11_0, hfz11_1, hfz11_2⟩ := c3_ BK348))
 refine bodyPost_ret (results_ct rfl _ _ gb348 24 #[.slice Ao10 t349.length co10, .bool t352, .int .i64 t353] (0, 0) _ rfl (bp_0 BK348) Try.underlying24 rfl (by kernel_rfl)) rfl ?_
 exact ⟨_, by first | rfl | (simp; done) | (simp [*]; done), by (with_reducible repeat (first | apply Kd.R_alloc | apply Kd.R_drewN | apply Kd.R_drew)); exact Kd.R_mono (Kd.R_far (p := ⟨gb348, 2, none⟩) (Kd.R_far (p := ⟨gb348, 1, none⟩) (Kd.R_far (p := ⟨gb348, 0, none⟩) (Kd.R_types HO351.out BK348.out (by decide)) (fun _ hk => hk.2) (.slice Ao10 t349.length co10)) (fun _ hk => hk.2) (.bool t352)) (fun _ hk => hk.2) (.int .i64 t353)) (fun _ hk => trivial), bl_2 HB GE347 GE348⟩

-- NOT PRINTED: function 69 (hard_Put_1)

/-! ### disk_Sync: function 72 -/
def disk_Sync.f (k : Nat) (l0_0 : List (S71)) (a0_1 : Bool) (a0_2 : Int) (a1 : ByteArray) : Option ((List (S71)) × Bool × Int × Int) := (disk_done.f k l0_0 a0_1 a0_2 1 a1 (⟨#[]⟩ : ByteArray) (⟨#[]⟩ : ByteArray) 0).bind fun bt359 => (some (bt359.1, bt359.2.1, bt359.2.2.1, bt359.2.2.2))
theorem disk_Sync.mono : ∀ a0 a1 a2 a3 k, LeO (disk_Sync.f k a0 a1 a2 a3) (disk_Sync.f (k + 1) a0 a1 a2 a3) := by
 intro a0 a1 a2 a3 k
 unfold disk_Sync.f
 repeat' first | (with_reducible first | exact disk_done.mono _ _ _ _ _ _ _ _ _ | exact LeO.refl _ | exact LeO.none _ | refine LeO.ite ?_ ?_ | refine LeO.bind ?_ (fun _ => ?_)) | exact disk_done.mono _ _ _ _ _ _ _ _ _ | exact LeO.none _ | refine LeO.ite ?_ ?_ | refine LeO.bind ?_ (fun _ => ?_)
set_option maxHeartbeats 80000000 in
set_option maxRecDepth 100000 in
theorem disk_Sync.calls (k : Nat) (A0_0 : Option Addr) (c0_0 : Nat) (l0_0 : List (S71)) (a0_1 : Bool) (a0_2 : Int) (a1 : ByteArray) (r1 : List (S71)) (r2 : Bool) (r3 : Int) (r4 : Int) (w : World) (hr0_0 : Kd.C k71 w A0_0 l0_0.length l0_0) (hc0_0 : l0_0.length ≤ c0_0) (h : disk_Sync.f k l0_0 a0_1 a0_2 a1 = some (r1, r2, r3, r4)) :
  Calls Try.prog 72 #[.agg #[.slice A0_0 l0_0.length c0_0, .bool a0_1, .int .i64 a0_2], .string a1] w fun e w' => ∃ v0_ : Value, e = .returned (.tuple #[.agg #[v0_, .bool r2, .int .i64 r3], .int .i64 r4]) ∧ Kd.R k71 71 w' w.heap.size (fun _ => True) v0_ r1 ∧ Below w.heap.size w w' := by
 have hu24 := Try.underlying24
 have hu115 := Try.underlying115
 have HR0_0 := Aside0.mk hr0_0
 have HC0_0 := Aside0.mk hc0_0
 clear hr0_0 hc0_0
 have HB := Aside0.mk (Below.refl w.heap.size w)
 have H : ((disk_done.f k l0_0 a0_1 a0_2 1 a1 (⟨#[]⟩ : ByteArray) (⟨#[]⟩ : ByteArray) 0).bind fun bt359 => (some (bt359.1, bt359.2.1, bt359.2.2.1, bt359.2.2.2))) = some (r1, r2, r3, r4) := h
 clear h
 obtain ⟨⟨t359, t362, t363, t364⟩, A30, H⟩ := Option.bind_eq_some_iff.mp H
 try dsimp only at H
 have A3 := Aside0.mk A30
 clear A30
 simp only [Option.some.injEq, Prod.mk.injEq] at H
 obtain ⟨rfl, rfl, rfl, rfl⟩ := H
 go_enter Try.func72, Try.ntmps72
 go_wp2_with (first | ((with_reducible refine gate_dst (N := 2) rfl ?_); refine bx_ 2 #[.slice A0_0 l0_0.length c0_0, .bool a0_1, .int .i64 a0_2] 24 ?_; intro gb357 hg w4 hbox hb; have BK357 := Aside0.mk (hbox); have GE357 := Aside0.mk (bs_0 hg HB); replace HB := Aside0.mk (below_step (bl_ HB) hb); clear hb hbox hg) | ((with_reducible refine gate_dst (N := 4) rfl ?_); refine bx_ 4 #[.slice none 0 0, .bool false, .int .i64 0] 24 ?_; intro gb358 hg w5 hbox hb; have BK358 := Aside0.mk (hbox); have GE358 := Aside0.mk (bs_1 hg HB GE357); replace HB := Aside0.mk (below_step (bl_1 HB GE357) hb); have NB357_358 := Aside0.mk (nb_ hg BK357); have NB358_357 := Aside0.mk (nc_ hg BK357); replace BK357 := Aside0.mk (bb_ BK357 hb); clear hb hbox hg; have hnb6 := NB357_358.out; have hnc6 := NB358_357.out; obtain ⟨hcz7_0, hcz7_1, hcz7_2, hfz7_0, hfz7_1, hfz7_2⟩ := c3_ BK357) | ((with_reducible refine gate_callee (f := 96) rfl ?_); refine goesL_ (some 9) rfl rfl Try.func96 (by kernel_rfl) rfl #[.agg #[.slice A0_0 l0_0.length c0_0, .bool a0_1, .int .i64 a0_2], .agg #[.int .u8 1, .string a1, .string (⟨#[]⟩ : ByteArray), .string (⟨#[]⟩ : ByteArray), .int .i64 0]] rfl (ar_) ?_; (with_reducible refine (disk_done.calls k _ _ l0_0 a0_1 a0_2 1 a1 (⟨#[]⟩ : ByteArray) (⟨#[]⟩ : ByteArray) 0 t359 t362 t363 t364 _ ?side1 ?side2 A3.out).mono ?_); (case side1 => exact cl_ (Kd.C_below HR0_0.out HB.out)); (case side2 => exact HC0_0.out); rintro e w8 ⟨v360, rfl, ho0, hb⟩; refine ⟨_, rfl, ?_⟩; have HO361 := Aside0.mk (Kd.R_lower ho0 (below_size (bl_2 HB GE357 GE358))); replace BK357 := Aside0.mk (bb_ BK357 hb); replace BK358 := Aside0.mk (bb_ BK358 hb); replace HB := Aside0.mk (below_step (bl_2 HB GE357 GE358) hb); (try clear hb); (try clear ho0); obtain ⟨Ao9, co9, eo9⟩ := Kd.R_slice HO361.out; subst eo9; obtain ⟨hcz10_0, hcz10_1, hcz10_2, hfz10_0, hfz10_1, hfz10_2⟩ := c3_ BK358))
 refine bodyPost_ret (results_ct rfl _ _ gb358 24 #[.slice Ao9 t359.length co9, .bool t362, .int .i64 t363] (0, 0) _ rfl (bp_0 BK358) Try.underlying24 rfl (by kernel_rfl)) rfl ?_
 exact ⟨_, by first | rfl | (simp; done) | (simp [*]; done), by (with_reducible repeat (first | apply Kd.R_alloc | apply Kd.R_drewN | apply Kd.R_drew)); exact Kd.R_mono (Kd.R_far (p := ⟨gb358, 2, none⟩) (Kd.R_far (p := ⟨gb358, 1, none⟩) (Kd.R_far (p := ⟨gb358, 0, none⟩) (Kd.R_types HO361.out BK358.out (by decide)) (fun _ hk => hk.2) (.slice Ao9 t359.length co9)) (fun _ hk => hk.2) (.bool t362)) (fun _ hk => hk.2) (.int .i64 t363)) (fun _ hk => trivial), bl_2 HB GE357 GE358⟩

-- NOT PRINTED: function 71 (hard_Put_2)

/-! ### disk_Swap: function 74 -/
def disk_Swap.f (k : Nat) (l0_0 : List (S71)) (a0_1 : Bool) (a0_2 : Int) (a1 : ByteArray) (a2 : ByteArray) : Option ((List (S71)) × Bool × Int × Int) := (disk_done.f k l0_0 a0_1 a0_2 3 a1 a2 (⟨#[]⟩ : ByteArray) 0).bind fun bt369 => (some (bt369.1, bt369.2.1, bt369.2.2.1, bt369.2.2.2))
theorem disk_Swap.mono : ∀ a0 a1 a2 a3 a4 k, LeO (disk_Swap.f k a0 a1 a2 a3 a4) (disk_Swap.f (k + 1) a0 a1 a2 a3 a4) := by
 intro a0 a1 a2 a3 a4 k
 unfold disk_Swap.f
 repeat' first | (with_reducible first | exact disk_done.mono _ _ _ _ _ _ _ _ _ | exact LeO.refl _ | exact LeO.none _ | refine LeO.ite ?_ ?_ | refine LeO.bind ?_ (fun _ => ?_)) | exact disk_done.mono _ _ _ _ _ _ _ _ _ | exact LeO.none _ | refine LeO.ite ?_ ?_ | refine LeO.bind ?_ (fun _ => ?_)
set_option maxHeartbeats 80000000 in
set_option maxRecDepth 100000 in
theorem disk_Swap.calls (k : Nat) (A0_0 : Option Addr) (c0_0 : Nat) (l0_0 : List (S71)) (a0_1 : Bool) (a0_2 : Int) (a1 : ByteArray) (a2 : ByteArray) (r1 : List (S71)) (r2 : Bool) (r3 : Int) (r4 : Int) (w : World) (hr0_0 : Kd.C k71 w A0_0 l0_0.length l0_0) (hc0_0 : l0_0.length ≤ c0_0) (h : disk_Swap.f k l0_0 a0_1 a0_2 a1 a2 = some (r1, r2, r3, r4)) :
  Calls Try.prog 74 #[.agg #[.slice A0_0 l0_0.length c0_0, .bool a0_1, .int .i64 a0_2], .string a1, .string a2] w fun e w' => ∃ v0_ : Value, e = .returned (.tuple #[.agg #[v0_, .bool r2, .int .i64 r3], .int .i64 r4]) ∧ Kd.R k71 71 w' w.heap.size (fun _ => True) v0_ r1 ∧ Below w.heap.size w w' := by
 have hu24 := Try.underlying24
 have hu115 := Try.underlying115
 have HR0_0 := Aside0.mk hr0_0
 have HC0_0 := Aside0.mk hc0_0
 clear hr0_0 hc0_0
 have HB := Aside0.mk (Below.refl w.heap.size w)
 have H : ((disk_done.f k l0_0 a0_1 a0_2 3 a1 a2 (⟨#[]⟩ : ByteArray) 0).bind fun bt369 => (some (bt369.1, bt369.2.1, bt369.2.2.1, bt369.2.2.2))) = some (r1, r2, r3, r4) := h
 clear h
 obtain ⟨⟨t369, t372, t373, t374⟩, A40, H⟩ := Option.bind_eq_some_iff.mp H
 try dsimp only at H
 have A4 := Aside0.mk A40
 clear A40
 simp only [Option.some.injEq, Prod.mk.injEq] at H
 obtain ⟨rfl, rfl, rfl, rfl⟩ := H
 go_enter Try.func74, Try.ntmps74
 go_wp2_with (first | ((with_reducible refine gate_dst (N := 3) rfl ?_); refine bx_ 3 #[.slice A0_0 l0_0.length c0_0, .bool a0_1, .int .i64 a0_2] 24 ?_; intro gb367 hg w5 hbox hb; have BK367 := Aside0.mk (hbox); have GE367 := Aside0.mk (bs_0 hg HB); replace HB := Aside0.mk (below_step (bl_ HB) hb); clear hb hbox hg) | ((with_reducible refine gate_dst (N := 6) rfl ?_); refine bx_ 6 #[.slice none 0 0, .bool false, .int .i64 0] 24 ?_; intro gb368 hg w6 hbox hb; have BK368 := Aside0.mk (hbox); have GE368 := Aside0.mk (bs_1 hg HB GE367); replace HB := Aside0.mk (below_step (bl_1 HB GE367) hb); have NB367_368 := Aside0.mk (nb_ hg BK367); have NB368_367 := Aside0.mk (nc_ hg BK367); replace BK367 := Aside0.mk (bb_ BK367 hb); clear hb hbox hg; have hnb7 := NB367_368.out; have hnc7 := NB368_367.out; obtain ⟨hcz8_0, hcz8_1, hcz8_2, hfz8_0, hfz8_1, hfz8_2⟩ := c3_ BK367) | ((with_reducible refine gate_callee (f := 96) rfl ?_); refine goesL_ (some 12) rfl rfl Try.func96 (by kernel_rfl) rfl #[.agg #[.slice A0_0 l0_0.length c0_0, .bool a0_1, .int .i64 a0_2], .agg #[.int .u8 3, .string a1, .string a2, .string (⟨#[]⟩ : ByteArray), .int .i64 0]] rfl (ar_) ?_; (with_reducible refine (disk_done.calls k _ _ l0_0 a0_1 a0_2 3 a1 a2 (⟨#[]⟩ : ByteArray) 0 t369 t372 t373 t374 _ ?side1 ?side2 A4.out).mono ?_); (case side1 => exact cl_ (Kd.C_below HR0_0.out HB.out)); (case side2 => exact HC0_0.out); rintro e w9 ⟨v370, rfl, ho0, hb⟩; refine ⟨_, rfl, ?_⟩; have HO371 := Aside0.mk (Kd.R_lower ho0 (below_size (bl_2 HB GE367 GE368))); replace BK367 := Aside0.mk (bb_ BK367 hb); replace BK368 := Aside0.mk (bb_ BK368 hb); replace HB := Aside0.mk (below_step (bl_2 HB GE367 GE368) hb); (try clear hb); (try clear ho0); obtain ⟨Ao10, co10, eo10⟩ := Kd.R_slice HO371.out; subst eo10; obtain ⟨hcz11_0, hcz11_1, hcz11_2, hfz11_0, hfz11_1, hfz11_2⟩ := c3_ BK368))
 refine bodyPost_ret (results_ct rfl _ _ gb368 24 #[.slice Ao10 t369.length co10, .bool t372, .int .i64 t373] (0, 0) _ rfl (bp_0 BK368) Try.underlying24 rfl (by kernel_rfl)) rfl ?_
 exact ⟨_, by first | rfl | (simp; done) | (simp [*]; done), by (with_reducible repeat (first | apply Kd.R_alloc | apply Kd.R_drewN | apply Kd.R_drew)); exact Kd.R_mono (Kd.R_far (p := ⟨gb368, 2, none⟩) (Kd.R_far (p := ⟨gb368, 1, none⟩) (Kd.R_far (p := ⟨gb368, 0, none⟩) (Kd.R_types HO371.out BK368.out (by decide)) (fun _ hk => hk.2) (.slice Ao10 t369.length co10)) (fun _ hk => hk.2) (.bool t372)) (fun _ hk => hk.2) (.int .i64 t373)) (fun _ hk => trivial), bl_2 HB GE367 GE368⟩

-- NOT PRINTED: function 73 (hard_Put_3)

-- NOT PRINTED: function 68 (hard_all)

end Go.Proofs.Ytpigjmjbfpipnaa.PC
