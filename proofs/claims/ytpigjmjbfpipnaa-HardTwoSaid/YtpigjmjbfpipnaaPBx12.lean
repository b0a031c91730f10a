-- Written for this claim by a program of this session. Lean checks it.
import Derived.Test.YtpigjmjbfpipnaaPBx0
import Derived.Test.YtpigjmjbfpipnaaPBx1
import Derived.Test.YtpigjmjbfpipnaaPBx2
import Derived.Test.YtpigjmjbfpipnaaPBx6
import Derived.Test.YtpigjmjbfpipnaaPBx10
import Derived.Test.YtpigjmjbfpipnaaPBx11
namespace Go.Proofs.Ytpigjmjbfpipnaa.PB
open Go.RowKit Go.Proofs.YtpigjmjbfpipnaaW.PrintWords Go.Proofs.YtpigjmjbfpipnaaW.PrintLast Go.Proofs.YtpigjmjbfpipnaaW.PrintMore Go.Proofs.Ytpigjmjbfpipnaa.Sh Go.Proofs.Ytpigjmjbfpipnaa.Op
attribute [local go_sem] max2_int min2_int max_two min_two max_three min_three max_four min_four   -- for this text's walks alone
set_option linter.unusedVariables false
set_option linter.unusedSimpArgs false

attribute [local go_sem high] eqA27 eqA71
/-! ### gafferlaw04_lives: function 19 -/
def gafferlaw04_lives.f (k : Nat)  : Option (Bool) := (hard_Load.f k ([] : List (S71)) false (-1)).bind fun bt297 => ((hard_Save.f k ([] : List (S71)) false (-1) 7 3).bind fun bt301 => ((disk_Crash.f k bt301.1 bt301.2.1 bt301.2.2.1 ([] : List Int)).bind fun bt308 => ((hard_Load.f k bt308.1 bt308.2.1 bt308.2.2.1).bind fun bt314 => (if (bt297.1 == 0 && (bt297.2.1 == 0)) = true then (if bt297.2.2 = 0 then (if bt301.2.2.2 = 0 then (if bt308.2.2.2 = 0 then (if bt314.2.2 = 0 then (if (bt314.1 == 7 && (bt314.2.1 == 3)) = true then ((hard_Check.f 0 8).bind fun t318 => (some (t318 == 1))) else (some false)) else (some false)) else (some false)) else (some false)) else (some false)) else (some false)))))
theorem gafferlaw04_lives.mono : ∀ k, LeO (gafferlaw04_lives.f k ) (gafferlaw04_lives.f (k + 1) ) := by
 intro  k
 unfold gafferlaw04_lives.f
 repeat' first | (with_reducible first | exact disk_Crash.mono _ _ _ _ _ | exact hard_Load.mono _ _ _ _ | exact hard_Save.mono _ _ _ _ _ _ | exact LeO.refl _ | exact LeO.none _ | refine LeO.ite ?_ ?_ | refine LeO.bind ?_ (fun _ => ?_)) | exact disk_Crash.mono _ _ _ _ _ | exact hard_Load.mono _ _ _ _ | exact hard_Save.mono _ _ _ _ _ _ | exact LeO.none _ | refine LeO.ite ?_ ?_ | refine LeO.bind ?_ (fun _ => ?_)
theorem gafferlaw04_lives.only (k : Nat) (r : Bool) (h : gafferlaw04_lives.f k = some r) : r = true := by
 have h1 : gafferlaw04_lives.f (k + 200) = some r := at_rounds (fun k => gafferlaw04_lives.mono k) (Nat.le_add_right _ _) h
 have h2 : gafferlaw04_lives.f (k + 200) = some true := at_rounds (g := fun k => gafferlaw04_lives.f k) (fun k => gafferlaw04_lives.mono k) (Nat.le_add_left 200 k) (show gafferlaw04_lives.f 200 = some true by decide +kernel)
 rw [h1] at h2
 injection h2
set_option maxHeartbeats 80000000 in
set_option maxRecDepth 100000 in
theorem gafferlaw04_lives.calls (k : Nat)  (r : Bool) (w : World) (h : gafferlaw04_lives.f k  = some r) :
  Calls Try.prog 19 #[] w fun e w' => e = .returned (.bool r) ∧ Below w.heap.size w w' := by
 have hr : r = true := gafferlaw04_lives.only k r h
 have hu24 := Try.underlying24
 have hu27 := Try.underlying27
 have HB := Aside0.mk (Below.refl w.heap.size w)
 have H : ((hard_Load.f k ([] : List (S71)) false (-1)).bind fun bt297 => ((hard_Save.f k ([] : List (S71)) false (-1) 7 3).bind fun bt301 => ((disk_Crash.f k bt301.1 bt301.2.1 bt301.2.2.1 ([] : List Int)).bind fun bt308 => ((hard_Load.f k bt308.1 bt308.2.1 bt308.2.2.1).bind fun bt314 => (if (bt297.1 == 0 && (bt297.2.1 == 0)) = true then (if bt297.2.2 = 0 then (if bt301.2.2.2 = 0 then (if bt308.2.2.2 = 0 then (if bt314.2.2 = 0 then (if (bt314.1 == 7 && (bt314.2.1 == 3)) = true then ((hard_Check.f 0 8).bind fun t318 => (some (t318 == 1))) else (some false)) else (some false)) else (some false)) else (some false)) else (some false)) else (some false)))))) = some r := h
 clear h
 obtain ⟨⟨t297, t298, t299⟩, A10, H⟩ := Option.bind_eq_some_iff.mp H
 try dsimp only at H
 have A1 := Aside0.mk A10
 clear A10
 obtain ⟨⟨t301, t304, t305, t306⟩, A20, H⟩ := Option.bind_eq_some_iff.mp H
 try dsimp only at H
 have A2 := Aside0.mk A20
 clear A20
 obtain ⟨⟨t308, t311, t312, t313⟩, A30, H⟩ := Option.bind_eq_some_iff.mp H
 try dsimp only at H
 have A3 := Aside0.mk A30
 clear A30
 obtain ⟨⟨t314, t315, t316⟩, A40, H⟩ := Option.bind_eq_some_iff.mp H
 try dsimp only at H
 have A4 := Aside0.mk A40
 clear A40
 by_cases c5 : (t297 == 0 && (t298 == 0)) = true
 rotate_left
 ·rw [if_neg c5] at H
  have c5b0 : (t297 == 0 && (t298 == 0)) = false := by simpa using c5
  (try (have c5b1 : decide (t297 = 0 && (t298 == 0)) = false := by simpa using c5))
  (try (have c5b2 : (t297 == 0 && (t298 == 0)) = false := by simpa using c5))
  (try (have c5b3 : ¬ (t297 = 0 && (t298 == 0)) := by simpa using c5))
  clear c5
  exact absurd (H.trans (congrArg some hr)) (by simp)


 rw [if_pos c5] at H
 have c5b0 : (t297 == 0 && (t298 == 0)) = true := c5
 (try (have c5b1 : decide (t297 = 0 && (t298 == 0)) = true := by simpa using c5))
 (try (have c5b2 : (t297 == 0 && (t298 == 0)) = true := by simpa using c5))
 clear c5
 by_cases c6 : t299 = 0
 rotate_left
 ·rw [if_neg c6] at H
  have c6b0 : (t299 == 0) = false := beq_eq_false_iff_ne.mpr c6
  have c6b1 : (t299 != 0) = true := bne_iff_ne.mpr c6
  exact absurd (H.trans (congrArg some hr)) (by simp)
 rw [if_pos c6] at H
 have c6b0 : (t299 == 0) = true := beq_iff_eq.mpr c6
 have c6b1 : (t299 != 0) = false := bne_eq_false_iff_eq.mpr c6
 clear c6
 by_cases c7 : t306 = 0
 rotate_left
 ·rw [if_neg c7] at H
  have c7b0 : (t306 == 0) = false := beq_eq_false_iff_ne.mpr c7
  have c7b1 : (t306 != 0) = true := bne_iff_ne.mpr c7
  exact absurd (H.trans (congrArg some hr)) (by simp)
 rw [if_pos c7] at H
 have c7b0 : (t306 == 0) = true := beq_iff_eq.mpr c7
 have c7b1 : (t306 != 0) = false := bne_eq_false_iff_eq.mpr c7
 clear c7
 by_cases c8 : t313 = 0
 rotate_left
 ·rw [if_neg c8] at H
  have c8b0 : (t313 == 0) = false := beq_eq_false_iff_ne.mpr c8
  have c8b1 : (t313 != 0) = true := bne_iff_ne.mpr c8
  exact absurd (H.trans (congrArg some hr)) (by simp)
 rw [if_pos c8] at H
 have c8b0 : (t313 == 0) = true := beq_iff_eq.mpr c8
 have c8b1 : (t313 != 0) = false := bne_eq_false_iff_eq.mpr c8
 clear c8
 by_cases c9 : t316 = 0
 rotate_left
 ·rw [if_neg c9] at H
  have c9b0 : (t316 == 0) = false := beq_eq_false_iff_ne.mpr c9
  have c9b1 : (t316 != 0) = true := bne_iff_ne.mpr c9
  exact absurd (H.trans (congrArg some hr)) (by simp)
 rw [if_pos c9] at H
 have c9b0 : (t316 == 0) = true := beq_iff_eq.mpr c9
 have c9b1 : (t316 != 0) = false := bne_eq_false_iff_eq.mpr c9
 clear c9
 by_cases c10 : (t314 == 7 && (t315 == 3)) = true
 rotate_left
 ·rw [if_neg c10] at H
  have c10b0 : (t314 == 7 && (t315 == 3)) = false := by simpa using c10
  (try (have c10b1 : decide (t314 = 7 && (t315 == 3)) = false := by simpa using c10))
  (try (have c10b2 : (t314 == 7 && (t315 == 3)) = false := by simpa using c10))
  (try (have c10b3 : ¬ (t314 = 7 && (t315 == 3)) := by simpa using c10))
  clear c10
  exact absurd (H.trans (congrArg some hr)) (by simp)
 rw [if_pos c10] at H
 have c10b0 : (t314 == 7 && (t315 == 3)) = true := c10
 (try (have c10b1 : decide (t314 = 7 && (t315 == 3)) = true := by simpa using c10))
 (try (have c10b2 : (t314 == 7 && (t315 == 3)) = true := by simpa using c10))
 clear c10
 obtain ⟨t318, A110, H⟩ := Option.bind_eq_some_iff.mp H
 try dsimp only at H
 have A11 := Aside0.mk A110
 clear A110
 obtain rfl := Option.some.inj H
 go_enter Try.func19, Try.ntmps19
 go_wp2_with (first | ((with_reducible refine gate_callee (f := 15) rfl ?_); refine goesL_ (some 10) rfl rfl Try.func15 (by kernel_rfl) rfl #[.agg #[.slice none 0 0, .bool false, .int .i64 (-1)]] rfl (ar_) ?_; (refine (hard_Load.calls k _ _ ([] : List (S71)) false (-1) t297 t298 t299 _ ?side1 ?side2 A1.out).mono ?_); (case side1 => exact Kd.C_nil _ _); (case side2 => exact Nat.le_refl _); rintro e w12 ⟨rfl, hb⟩; (try clear A1); refine ⟨_, rfl, ?_⟩; replace HB := Aside0.mk (below_step (bl_ HB) hb); (try clear hb)) | ((with_reducible refine gate_dst (N := 1) rfl ?_); refine bx_ 1 #[.int .u64 0, .int .i64 0] 27 ?_; intro gb300 hg w13 hbox hb; have BK300 := Aside0.mk (hbox); have GE300 := Aside0.mk (bs_0 hg HB); replace HB := Aside0.mk (below_step (bl_ HB) hb); clear hb hbox hg; obtain ⟨hcz14_0, hcz14_1, hfz14_0, hfz14_1⟩ := c2_ BK300) | ((with_reducible refine gate_callee (f := 17) rfl ?_); refine goesL_ (some 16) rfl rfl Try.func17 (by kernel_rfl) rfl #[.agg #[.slice none 0 0, .bool false, .int .i64 (-1)], .agg #[.int .u64 7, .int .i64 3]] rfl (ar_) ?_; (refine (hard_Save.calls k _ _ ([] : List (S71)) false (-1) 7 3 t301 t304 t305 t306 _ ?side1 ?side2 A2.out).mono ?_); (case side1 => exact Kd.C_nil _ _); (case side2 => exact Nat.le_refl _); rintro e w15 ⟨v302, rfl, ho0, hb⟩; (try clear A2); refine ⟨_, rfl, ?_⟩; have HO303 := Aside0.mk (Kd.R_lower ho0 (below_size (bl_1 HB GE300))); replace BK300 := Aside0.mk (blk_below (g := gb300) (o := .cells #[.int .u64 t297, .int .i64 t298] 27 (0, 0)) (bp_0 BK300) hb); replace HB := Aside0.mk (below_step (bl_1 HB GE300) hb); (try clear hb); (try clear ho0)) | ((with_reducible refine gate_dst (N := 3) rfl ?_); refine bx_ 3 #[.slice none 0 0, .bool false, .int .i64 0] 24 ?_; intro gb307 hg w16 hbox hb; replace HO303 := Aside0.mk (Kd.R_below (by (with_reducible repeat (first | apply Kd.R_alloc | apply Kd.R_drewN | apply Kd.R_drew)); exact HO303.out) hb); have BK307 := Aside0.mk (hbox); have GE307 := Aside0.mk (bs_1 hg HB GE300); replace HB := Aside0.mk (below_step (bl_1 HB GE300) hb); have NB300_307 := Aside0.mk (nb_ hg BK300); have NB307_300 := Aside0.mk (nc_ hg BK300); replace BK300 := Aside0.mk (bb_ BK300 hb); clear hb hbox hg; obtain ⟨Ao17, co17, eo17⟩ := Kd.R_slice HO303.out; subst eo17; have hnb18 := NB307_300.out; have hnc18 := NB300_307.out; obtain ⟨hcz19_0, hcz19_1, hcz19_2, hfz19_0, hfz19_1, hfz19_2⟩ := c3_ BK307) | ((with_reducible refine gate_callee (f := 23) rfl ?_); refine goesL_ (some 21) rfl rfl Try.func23 (by kernel_rfl) rfl #[.agg #[.slice Ao17 t301.length co17, .bool t304, .int .i64 t305], .slice none 0 0] rfl (ar_) ?_; (refine (disk_Crash.calls k _ _ t301 t304 t305 _ _ ([] : List Int) t308 t311 t312 t313 _ ?side1 ?side2 ?side3 ?side4 A3.out).mono ?_); (case side1 => refine (Kd.R_reads' (e := 71) (base := w.heap.size) (ok := fun k_ => True) (n := t301.length) (c := co17) ?_).2.2; exact (by (with_reducible repeat (first | apply Kd.R_alloc | apply Kd.R_drewN | apply Kd.R_drew)); exact (Kd.R_mono (Kd.R_far (p := ⟨gb307, 2, none⟩) (Kd.R_far (p := ⟨gb307, 1, none⟩) (Kd.R_far (p := ⟨gb307, 0, none⟩) (Kd.R_types HO303.out BK307.out (by decide)) (fun _ hk => hk.2) (.slice Ao17 t301.length co17)) (fun _ hk => hk.2) (.bool t304)) (fun _ hk => hk.2) (.int .i64 t305)) (fun _ h_ => h_.1)))); (case side2 => exact (Kd.R_reads' HO303.out).2.1); (case side3 => exact Kd.C_nil _ _); (case side4 => exact Nat.le_refl _); rintro e w20 ⟨v309, rfl, ho0, hb⟩; (try clear A3); refine ⟨_, rfl, ?_⟩; have HO310 := Aside0.mk (Kd.R_lower (Kd.R_new' ho0 (Kd.R_lt (by (with_reducible repeat (first | apply Kd.R_alloc | apply Kd.R_drewN | apply Kd.R_drew)); exact (Kd.R_mono (Kd.R_far (p := ⟨gb307, 2, none⟩) (Kd.R_far (p := ⟨gb307, 1, none⟩) (Kd.R_far (p := ⟨gb307, 0, none⟩) (Kd.R_types HO303.out BK307.out (by decide)) (fun _ hk => hk.2) (.slice Ao17 t301.length co17)) (fun _ hk => hk.2) (.bool t304)) (fun _ hk => hk.2) (.int .i64 t305)) (fun _ h_ => h_.1))))) (below_size (bl_2 HB GE300 GE307))); replace HO303 := Aside0.mk (Kd.R_elder' (by (with_reducible repeat (first | apply Kd.R_alloc | apply Kd.R_drewN | apply Kd.R_drew)); exact (Kd.R_mono (Kd.R_far (p := ⟨gb307, 2, none⟩) (Kd.R_far (p := ⟨gb307, 1, none⟩) (Kd.R_far (p := ⟨gb307, 0, none⟩) (Kd.R_types HO303.out BK307.out (by decide)) (fun _ hk => hk.2) (.slice Ao17 t301.length co17)) (fun _ hk => hk.2) (.bool t304)) (fun _ hk => hk.2) (.int .i64 t305)) (fun _ h_ => h_.1))) (Kd.R_base ho0) hb); replace BK300 := Aside0.mk (blk_below (g := gb300) (o := .cells #[.int .u64 t297, .int .i64 t298] 27 (0, 0)) (bp_1 BK300 NB300_307) hb); replace BK307 := Aside0.mk (blk_below (g := gb307) (o := .cells #[.slice Ao17 t301.length co17, .bool t304, .int .i64 t305] 24 (0, 0)) (bp_0 BK307) hb); replace HB := Aside0.mk (below_step (bl_2 HB GE300 GE307) hb); (try clear hb); (try clear ho0); obtain ⟨Ao21, co21, eo21⟩ := Kd.R_slice HO310.out; subst eo21; obtain ⟨hcz22_0, hcz22_1, hcz22_2, hfz22_0, hfz22_1, hfz22_2⟩ := c3_ BK307) | ((with_reducible refine gate_callee (f := 15) rfl ?_); refine goesL_ (some 26) rfl rfl Try.func15 (by kernel_rfl) rfl #[.agg #[.slice Ao21 t308.length co21, .bool t311, .int .i64 t312]] rfl (ar_) ?_; (with_reducible refine (hard_Load.calls k _ _ t308 t311 t312 t314 t315 t316 _ ?side1 ?side2 A4.out).mono ?_); (case side1 => refine (Kd.R_reads' (e := 71) (base := w.heap.size) (ok := fun k_ => (True ∧ some k_ ≠ (.slice Ao17 t301.length co17 : Value).ownBlock)) (n := t308.length) (c := co21) ?_).2.2; exact (by (with_reducible repeat (first | apply Kd.R_alloc | apply Kd.R_drewN | apply Kd.R_drew)); exact (Kd.R_mono (Kd.R_far (p := ⟨gb307, 2, none⟩) (Kd.R_far (p := ⟨gb307, 1, none⟩) (Kd.R_far (p := ⟨gb307, 0, none⟩) (Kd.R_types HO310.out BK307.out (by decide)) (fun _ hk => hk.2) (.slice Ao21 t308.length co21)) (fun _ hk => hk.2) (.bool t311)) (fun _ hk => hk.2) (.int .i64 t312)) (fun _ h_ => h_.1)))); (case side2 => exact (Kd.R_reads' HO310.out).2.1); rintro e w23 ⟨rfl, hb⟩; refine ⟨_, rfl, ?_⟩; replace HO303 := Aside0.mk (Kd.R_below (by (with_reducible repeat (first | apply Kd.R_alloc | apply Kd.R_drewN | apply Kd.R_drew)); exact (Kd.R_mono (Kd.R_far (p := ⟨gb307, 2, none⟩) (Kd.R_far (p := ⟨gb307, 1, none⟩) (Kd.R_far (p := ⟨gb307, 0, none⟩) (Kd.R_types HO303.out BK307.out (by decide)) (fun _ hk => hk.2) (.slice Ao21 t308.length co21)) (fun _ hk => hk.2) (.bool t311)) (fun _ hk => hk.2) (.int .i64 t312)) (fun _ h_ => h_.1))) hb); replace HO310 := Aside0.mk (Kd.R_below (by (with_reducible repeat (first | apply Kd.R_alloc | apply Kd.R_drewN | apply Kd.R_drew)); exact (Kd.R_mono (Kd.R_far (p := ⟨gb307, 2, none⟩) (Kd.R_far (p := ⟨gb307, 1, none⟩) (Kd.R_far (p := ⟨gb307, 0, none⟩) (Kd.R_types HO310.out BK307.out (by decide)) (fun _ hk => hk.2) (.slice Ao21 t308.length co21)) (fun _ hk => hk.2) (.bool t311)) (fun _ hk => hk.2) (.int .i64 t312)) (fun _ h_ => h_.1))) hb); replace BK300 := Aside0.mk (blk_below (g := gb300) (o := .cells #[.int .u64 t297, .int .i64 t298] 27 (0, 0)) (bp_1 BK300 NB300_307) hb); replace BK307 := Aside0.mk (blk_below (g := gb307) (o := .cells #[.slice Ao21 t308.length co21, .bool t311, .int .i64 t312] 24 (0, 0)) (bp_0 BK307) hb); replace HB := Aside0.mk (below_step (bl_2 HB GE300 GE307) hb); (try clear hb)) | ((with_reducible refine gate_dst (N := 6) rfl ?_); refine bx_ 6 #[.int .u64 0, .int .i64 0] 27 ?_; intro gb317 hg w24 hbox hb; replace HO303 := Aside0.mk (Kd.R_below (by (with_reducible repeat (first | apply Kd.R_alloc | apply Kd.R_drewN | apply Kd.R_drew)); exact HO303.out) hb); replace HO310 := Aside0.mk (Kd.R_below (by (with_reducible repeat (first | apply Kd.R_alloc | apply Kd.R_drewN | apply Kd.R_drew)); exact HO310.out) hb); have BK317 := Aside0.mk (hbox); have GE317 := Aside0.mk (bs_2 hg HB GE300 GE307); replace HB := Aside0.mk (below_step (bl_2 HB GE300 GE307) hb); have NB300_317 := Aside0.mk (nb_ hg BK300); have NB317_300 := Aside0.mk (nc_ hg BK300); replace BK300 := Aside0.mk (bb_ BK300 hb); have NB307_317 := Aside0.mk (nb_ hg BK307); have NB317_307 := Aside0.mk (nc_ hg BK307); replace BK307 := Aside0.mk (bb_ BK307 hb); clear hb hbox hg; have hnb25 := NB317_300.out; have hnc25 := NB300_317.out; have hnb26 := NB317_307.out; have hnc26 := NB307_317.out; obtain ⟨hcz27_0, hcz27_1, hfz27_0, hfz27_1⟩ := c2_ BK317; obtain ⟨hcz28_0, hcz28_1, hfz28_0, hfz28_1⟩ := c2_ BK300) | (go_at_call 21; (with_reducible refine (hard_Check.calls 0 8 t318 _ A11.out).mono ?_); rintro e w29 ⟨rfl, hb⟩; replace HO303 := Aside0.mk (Kd.R_below (by (with_reducible repeat (first | apply Kd.R_alloc | apply Kd.R_drewN | apply Kd.R_drew)); exact (Kd.R_mono (Kd.R_far (p := ⟨gb317, 1, none⟩) (Kd.R_far (p := ⟨gb317, 0, none⟩) (Kd.R_types HO303.out BK317.out (by decide)) (fun _ hk => hk.2) (.int .u64 t314)) (fun _ hk => hk.2) (.int .i64 t315)) (fun _ h_ => h_.1))) hb); replace HO310 := Aside0.mk (Kd.R_below (by (with_reducible repeat (first | apply Kd.R_alloc | apply Kd.R_drewN | apply Kd.R_drew)); exact (Kd.R_mono (Kd.R_far (p := ⟨gb317, 1, none⟩) (Kd.R_far (p := ⟨gb317, 0, none⟩) (Kd.R_types HO310.out BK317.out (by decide)) (fun _ hk => hk.2) (.int .u64 t314)) (fun _ hk => hk.2) (.int .i64 t315)) (fun _ h_ => h_.1))) hb); replace BK300 := Aside0.mk (blk_below (g := gb300) (o := .cells #[.int .u64 t297, .int .i64 t298] 27 (0, 0)) (bp_1 BK300 NB300_317) hb); replace BK307 := Aside0.mk (blk_below (g := gb307) (o := .cells #[.slice Ao21 t308.length co21, .bool t311, .int .i64 t312] 24 (0, 0)) (bp_1 BK307 NB307_317) hb); replace BK317 := Aside0.mk (blk_below (g := gb317) (o := .cells #[.int .u64 t314, .int .i64 t315] 27 (0, 0)) (bp_0 BK317) hb); replace HB := Aside0.mk (below_step (bl_3 HB GE300 GE307 GE317) hb); (try clear hb)))
 go_ret
 exact ⟨by first | rfl | (simp; done) | (simp [*]; done), bl_3 HB GE300 GE307 GE317⟩
/-! ### gafferref02_Same: function 20 -/
mutual
def gafferref02_Same.j0 : Nat → Bool → List (S71) → Bool → Int → List (S71) → Bool → Int → Option (Bool)
 | 0, _, _, _, _, _, _, _ => none
 | k + 1, x26, x320000, x320001, x320002, x321000, x321001, x321002 => if x26 = true then (some false) else (gafferref02_Same.l0 k (x320000.length : Int) 0 x320000 x320001 x320002 x321000 x321001 x321002)
def gafferref02_Same.l0 : Nat → Int → Int → List (S71) → Bool → Int → List (S71) → Bool → Int → Option (Bool)
 | 0, _, _, _, _, _, _, _, _ => none
 | k + 1, x29, x30, x320000, x320001, x320002, x321000, x321001, x321002 => if x30 < x29 then (if 0 ≤ x30 then (if x30 < (x320000.length : Int) then (if x30 < (x321000.length : Int) then (if (!((((rd_T71 x320000 x30).f0).toList) == (((rd_T71 x321000 x30).f0).toList)) || (!((((rd_T71 x320000 x30).f1).toList) == (((rd_T71 x321000 x30).f1).toList)) || (!(((rd_T71 x320000 x30).f2) == ((rd_T71 x321000 x30).f2))))) = true then (some false) else (gafferref02_Same.l0 k x29 (wrap64 (x30 + 1)) x320000 x320001 x320002 x321000 x321001 x321002)) else (none)) else (none)) else (none)) else (some true)
end
def gafferref02_Same.f (k : Nat) (l0_0 : List (S71)) (a0_1 : Bool) (a0_2 : Int) (l1_0 : List (S71)) (a1_1 : Bool) (a1_2 : Int) : Option (Bool) := if (a0_1 != a1_1) = true then (gafferref02_Same.j0 k true l0_0 a0_1 a0_2 l1_0 a1_1 a1_2) else (if a0_2 = a1_2 then (gafferref02_Same.j0 k ((l0_0.length : Int) != (l1_0.length : Int)) l0_0 a0_1 a0_2 l1_0 a1_1 a1_2) else (gafferref02_Same.j0 k true l0_0 a0_1 a0_2 l1_0 a1_1 a1_2))
theorem gafferref02_Same.mono_l : ∀ k, (∀ y0 y1 y2 y3 y4 y5 y6, LeO (gafferref02_Same.j0 k y0 y1 y2 y3 y4 y5 y6) (gafferref02_Same.j0 (k + 1) y0 y1 y2 y3 y4 y5 y6)) ∧ (∀ y0 y1 y2 y3 y4 y5 y6 y7, LeO (gafferref02_Same.l0 k y0 y1 y2 y3 y4 y5 y6 y7) (gafferref02_Same.l0 (k + 1) y0 y1 y2 y3 y4 y5 y6 y7))
 | 0 => ⟨fun _ _ _ _ _ _ _ r h => by simp [gafferref02_Same.j0] at h, fun _ _ _ _ _ _ _ _ r h => by simp [gafferref02_Same.l0] at h⟩
 | k + 1 => by
  obtain ⟨ih0, ih1⟩ := gafferref02_Same.mono_l k
  refine ⟨?_, ?_⟩
  ·intro y0 y1 y2 y3 y4 y5 y6
   unfold gafferref02_Same.j0
   repeat' first | (with_reducible first | exact ih0 _ _ _ _ _ _ _ | exact ih1 _ _ _ _ _ _ _ _ | exact LeO.refl _ | exact LeO.none _ | refine LeO.ite ?_ ?_ | refine LeO.bind ?_ (fun _ => ?_)) | exact ih0 _ _ _ _ _ _ _ | exact ih1 _ _ _ _ _ _ _ _ | exact LeO.none _ | refine LeO.ite ?_ ?_ | refine LeO.bind ?_ (fun _ => ?_)
  ·intro y0 y1 y2 y3 y4 y5 y6 y7
   unfold gafferref02_Same.l0
   repeat' first | (with_reducible first | exact ih0 _ _ _ _ _ _ _ | exact ih1 _ _ _ _ _ _ _ _ | exact LeO.refl _ | exact LeO.none _ | refine LeO.ite ?_ ?_ | refine LeO.bind ?_ (fun _ => ?_)) | exact ih0 _ _ _ _ _ _ _ | exact ih1 _ _ _ _ _ _ _ _ | exact LeO.none _ | refine LeO.ite ?_ ?_ | refine LeO.bind ?_ (fun _ => ?_)
theorem gafferref02_Same.mono : ∀ a0 a1 a2 a3 a4 a5 k, LeO (gafferref02_Same.f k a0 a1 a2 a3 a4 a5) (gafferref02_Same.f (k + 1) a0 a1 a2 a3 a4 a5) := by
 intro a0 a1 a2 a3 a4 a5 k
 obtain ⟨ih0, ih1⟩ := gafferref02_Same.mono_l k
 unfold gafferref02_Same.f
 repeat' first | (with_reducible first | exact ih0 _ _ _ _ _ _ _ | exact ih1 _ _ _ _ _ _ _ _ | exact LeO.refl _ | exact LeO.none _ | refine LeO.ite ?_ ?_ | refine LeO.bind ?_ (fun _ => ?_)) | exact ih0 _ _ _ _ _ _ _ | exact ih1 _ _ _ _ _ _ _ _ | exact LeO.none _ | refine LeO.ite ?_ ?_ | refine LeO.bind ?_ (fun _ => ?_)
set_option maxHeartbeats 80000000 in
set_option maxRecDepth 100000 in
theorem gafferref02_Same.calls (k : Nat) (A0_0 : Option Addr) (c0_0 : Nat) (l0_0 : List (S71)) (a0_1 : Bool) (a0_2 : Int) (A1_0 : Option Addr) (c1_0 : Nat) (l1_0 : List (S71)) (a1_1 : Bool) (a1_2 : Int) (r : Bool) (w : World) (hr0_0 : Kd.C k71 w A0_0 l0_0.length l0_0) (hc0_0 : l0_0.length ≤ c0_0) (hr1_0 : Kd.C k71 w A1_0 l1_0.length l1_0) (hc1_0 : l1_0.length ≤ c1_0) (h : gafferref02_Same.f k l0_0 a0_1 a0_2 l1_0 a1_1 a1_2 = some r) :
  Calls Try.prog 20 #[.agg #[.slice A0_0 l0_0.length c0_0, .bool a0_1, .int .i64 a0_2], .agg #[.slice A1_0 l1_0.length c1_0, .bool a1_1, .int .i64 a1_2]] w fun e w' => e = .returned (.bool r) ∧ Below w.heap.size w w' := by
 have hu24 := Try.underlying24
 have hu71 := Try.underlying71
 have HR0_0 := Aside0.mk hr0_0
 have HC0_0 := Aside0.mk hc0_0
 clear hr0_0 hc0_0
 have HR1_0 := Aside0.mk hr1_0
 have HC1_0 := Aside0.mk hc1_0
 clear hr1_0 hc1_0
 have HB := Aside0.mk (Below.refl w.heap.size w)
 have H : (if (a0_1 != a1_1) = true then (gafferref02_Same.j0 k true l0_0 a0_1 a0_2 l1_0 a1_1 a1_2) else (if a0_2 = a1_2 then (gafferref02_Same.j0 k ((l0_0.length : Int) != (l1_0.length : Int)) l0_0 a0_1 a0_2 l1_0 a1_1 a1_2) else (gafferref02_Same.j0 k true l0_0 a0_1 a0_2 l1_0 a1_1 a1_2))) = some r := h
 clear h
 have HC3 := Aside0.mk H
 clear H
 go_enter Try.func20, Try.ntmps20
 go_upto_region 1 with (first | ((with_reducible refine gate_dst (N := 2) rfl ?_); (try (refine gate_guard (by rfl) ?_; dsimp only)); refine bx_ 2 #[.slice A0_0 l0_0.length c0_0, .bool a0_1, .int .i64 a0_2] 24 ?_; intro gb319 hg w4 hbox hb; have BK319 := Aside0.mk (hbox); have GE319 := Aside0.mk (bs_0 hg HB); replace HB := Aside0.mk (below_step (bl_ HB) hb); clear hb hbox hg) | ((with_reducible refine gate_dst (N := 3) rfl ?_); (try (refine gate_guard (by rfl) ?_; dsimp only)); refine bx_ 3 #[.slice A1_0 l1_0.length c1_0, .bool a1_1, .int .i64 a1_2] 24 ?_; intro gb320 hg w5 hbox hb; have BK320 := Aside0.mk (hbox); have GE320 := Aside0.mk (bs_1 hg HB GE319); replace HB := Aside0.mk (below_step (bl_1 HB GE319) hb); have NB319_320 := Aside0.mk (nb_ hg BK319); have NB320_319 := Aside0.mk (nc_ hg BK319); replace BK319 := Aside0.mk (bb_ BK319 hb); clear hb hbox hg))
 repeat (go_quiet (first | ((with_reducible refine gate_dst (N := 2) rfl ?_); (try (refine gate_guard (by rfl) ?_; dsimp only)); refine bx_ 2 #[.slice A0_0 l0_0.length c0_0, .bool a0_1, .int .i64 a0_2] 24 ?_; intro gb319 hg w4 hbox hb; have BK319 := Aside0.mk (hbox); have GE319 := Aside0.mk (bs_0 hg HB); replace HB := Aside0.mk (below_step (bl_ HB) hb); clear hb hbox hg) | ((with_reducible refine gate_dst (N := 3) rfl ?_); (try (refine gate_guard (by rfl) ?_; dsimp only)); refine bx_ 3 #[.slice A1_0 l1_0.length c1_0, .bool a1_1, .int .i64 a1_2] 24 ?_; intro gb320 hg w5 hbox hb; have BK320 := Aside0.mk (hbox); have GE320 := Aside0.mk (bs_1 hg HB GE319); replace HB := Aside0.mk (below_step (bl_1 HB GE319) hb); have NB319_320 := Aside0.mk (nb_ hg BK319); have NB320_319 := Aside0.mk (nc_ hg BK319); replace BK319 := Aside0.mk (bb_ BK319 hb); clear hb hbox hg)); go_upto_region 1 with (first | ((with_reducible refine gate_dst (N := 2) rfl ?_); (try (refine gate_guard (by rfl) ?_; dsimp only)); refine bx_ 2 #[.slice A0_0 l0_0.length c0_0, .bool a0_1, .int .i64 a0_2] 24 ?_; intro gb319 hg w4 hbox hb; have BK319 := Aside0.mk (hbox); have GE319 := Aside0.mk (bs_0 hg HB); replace HB := Aside0.mk (below_step (bl_ HB) hb); clear hb hbox hg) | ((with_reducible refine gate_dst (N := 3) rfl ?_); (try (refine gate_guard (by rfl) ?_; dsimp only)); refine bx_ 3 #[.slice A1_0 l1_0.length c1_0, .bool a1_1, .int .i64 a1_2] 24 ?_; intro gb320 hg w5 hbox hb; have BK320 := Aside0.mk (hbox); have GE320 := Aside0.mk (bs_1 hg HB GE319); replace HB := Aside0.mk (below_step (bl_1 HB GE319) hb); have NB319_320 := Aside0.mk (nb_ hg BK319); have NB320_319 := Aside0.mk (nc_ hg BK319); replace BK319 := Aside0.mk (bb_ BK319 hb); clear hb hbox hg)))
 (try simp only [Act.put, List.setIfInBounds_toArray, List.set_cons_zero, List.set_cons_succ])
 go_cut [26] (fun v26 wc => ∃ (kq : Nat) (x26_2 : Bool), v26 = .bool x26_2 ∧ Aside0 (gafferref02_Same.j0 kq x26_2 l0_0 a0_1 a0_2 l1_0 a1_1 a1_2 = some r) ∧ Aside0 (kq ≤ k) ∧ Aside0 (wc.heap[gb319]? = some (.cells #[(.slice A0_0 l0_0.length c0_0), .bool a0_1, .int .i64 a0_2] 24 (0, 0))) ∧ Aside0 (wc.heap[gb320]? = some (.cells #[(.slice A1_0 l1_0.length c1_0), .bool a1_1, .int .i64 a1_2] 24 (0, 0))) ∧ Aside0 (Below w.heap.size w wc))
 case first =>
  have H := HC3.out
  clear HC3
  by_cases c6 : (a0_1 != a1_1) = true
  ·rw [if_pos c6] at H
   have c6b0 : (a0_1 != a1_1) = true := c6
   (try (have c6b1 : decide (a0_1 = a1_1) = false := by simpa using c6))
   (try (have c6b2 : (a0_1 == a1_1) = false := by simpa using c6))
   (try (have c6b3 : ¬ (a0_1 = a1_1) := by simpa using c6))
   clear c6
   (first | rw [c6b0] | (simp only [i64_w, i32_w]; rw [c6b0]) | skip)
   have H' := Aside0.mk H
   clear H
   have hnb7 := NB319_320.out
   have hnc7 := NB320_319.out
   obtain ⟨hcz8_0, hcz8_1, hcz8_2, hfz8_0, hfz8_1, hfz8_2⟩ := c3_ BK319
   obtain ⟨hcz9_0, hcz9_1, hcz9_2, hfz9_0, hfz9_1, hfz9_2⟩ := c3_ BK320
   go_wp2
   repeat (go_quiet (fail); try go_wp2)
   go_meet
   case rel => exact ⟨_, (true), (by first | rfl | (simp; done) | (simp [*]; done)), H', ⟨by first | omega | exact Nat.le_refl _⟩, ⟨bk_ BK319⟩, ⟨bk_ BK320⟩, ⟨bl_2 HB GE319 GE320⟩⟩
  rw [if_neg c6] at H
  have c6b0 : (a0_1 != a1_1) = false := by simpa using c6
  (try (have c6b1 : decide (a0_1 = a1_1) = true := by simpa using c6))
  (try (have c6b2 : (a0_1 == a1_1) = true := by simpa using c6))
  clear c6
  (first | rw [c6b0] | (simp only [i64_w, i32_w]; rw [c6b0]) | skip)
  by_cases c10 : a0_2 = a1_2
  rotate_left
  ·rw [if_neg c10] at H
   have c10b0 : (a0_2 == a1_2) = false := beq_eq_false_iff_ne.mpr c10
   have c10b1 : (a0_2 != a1_2) = true := bne_iff_ne.mpr c10
   have H' := Aside0.mk H
   clear H
   have hnb14 := NB319_320.out
   have hnc14 := NB320_319.out
   obtain ⟨hcz15_0, hcz15_1, hcz15_2, hfz15_0, hfz15_1, hfz15_2⟩ := c3_ BK319
   obtain ⟨hcz16_0, hcz16_1, hcz16_2, hfz16_0, hfz16_1, hfz16_2⟩ := c3_ BK320
   go_wp2
   repeat (go_quiet (fail); try go_wp2)
   go_meet
   case rel => exact ⟨_, (true), (by first | rfl | (simp; done) | (simp [*]; done)), H', ⟨by first | omega | exact Nat.le_refl _⟩, ⟨bk_ BK319⟩, ⟨bk_ BK320⟩, ⟨bl_2 HB GE319 GE320⟩⟩
  rw [if_pos c10] at H
  have c10b0 : (a0_2 == a1_2) = true := beq_iff_eq.mpr c10
  have c10b1 : (a0_2 != a1_2) = false := bne_eq_false_iff_eq.mpr c10
  clear c10
  have H' := Aside0.mk H
  clear H
  have hnb11 := NB319_320.out
  have hnc11 := NB320_319.out
  obtain ⟨hcz12_0, hcz12_1, hcz12_2, hfz12_0, hfz12_1, hfz12_2⟩ := c3_ BK319
  obtain ⟨hcz13_0, hcz13_1, hcz13_2, hfz13_0, hfz13_1, hfz13_2⟩ := c3_ BK320
  go_wp2
  repeat (go_quiet (fail); try go_wp2)
  go_meet
  case rel => exact ⟨_, (((l0_0.length : Int) != (l1_0.length : Int))), (by first | rfl | (simp; done) | (simp [*]; done)), H', ⟨by first | omega | exact Nat.le_refl _⟩, ⟨bk_ BK319⟩, ⟨bk_ BK320⟩, ⟨bl_2 HB GE319 GE320⟩⟩
 case rest =>
  clear HC3
  try clear c1
  try clear c2
  try clear p2
  try clear c6
  try clear c6b0
  try clear c6b1
  try clear c6b2
  try clear c7
  try clear c10
  try clear c10b0
  try clear c10b1
  try clear c11
  try clear c14
  try clear hcz12_0
  try clear hcz12_1
  try clear hcz12_2
  try clear hcz13_0
  try clear hcz13_1
  try clear hcz13_2
  try clear hcz15_0
  try clear hcz15_1
  try clear hcz15_2
  try clear hcz16_0
  try clear hcz16_1
  try clear hcz16_2
  try clear hcz8_0
  try clear hcz8_1
  try clear hcz8_2
  try clear hcz9_0
  try clear hcz9_1
  try clear hcz9_2
  try clear hfz12_0
  try clear hfz12_1
  try clear hfz12_2
  try clear hfz13_0
  try clear hfz13_1
  try clear hfz13_2
  try clear hfz15_0
  try clear hfz15_1
  try clear hfz15_2
  try clear hfz16_0
  try clear hfz16_1
  try clear hfz16_2
  try clear hfz8_0
  try clear hfz8_1
  try clear hfz8_2
  try clear hfz9_0
  try clear hfz9_1
  try clear hfz9_2
  obtain ⟨kq, x26_2, rfl, HA, HJ2, BK319, BK320, HB⟩ := hcut
  cases kq with
  | zero => exact absurd HA.out (by simp [gafferref02_Same.j0])
  | succ kj2 =>
   have H := HA.out
   clear HA
   simp only [gafferref02_Same.j0] at H
   by_cases c17 : x26_2 = true
   ·subst c17
    have H1 : (some false) = some r := by rw [if_pos rfl] at H; exact H
    clear H
    have H := H1
    clear H1
    obtain rfl := Option.some.inj H
    go_wp2
    repeat (go_quiet (fail); try go_wp2)
    go_ret
    exact ⟨by first | rfl | (simp; done) | (simp [*]; done), bl_2 HB GE319 GE320⟩
   replace c17 := Bool.eq_false_iff.mpr c17
   subst c17
   have H1 : (gafferref02_Same.l0 kj2 (l0_0.length : Int) 0 l0_0 a0_1 a0_2 l1_0 a1_1 a1_2) = some r := by rw [if_neg (show ¬ (false = true) by decide)] at H; exact H
   clear H
   have H := H1
   clear H1
   have H' := Aside0.mk H
   clear H
   have hnb18 := NB319_320.out
   have hnc18 := NB320_319.out
   obtain ⟨hcz19_0, hcz19_1, hcz19_2, hfz19_0, hfz19_1, hfz19_2⟩ := c3_ BK319
   go_wp2
   repeat (go_quiet (fail); try go_wp2)
   go_loopg [30] kj2 (fun kq v30 w' => ∃ (x30_2 : Int), v30 = .int .i64 x30_2 ∧ Aside0 (gafferref02_Same.l0 kq (l0_0.length : Int) x30_2 l0_0 a0_1 a0_2 l1_0 a1_1 a1_2 = some r) ∧ Aside0 (kq ≤ kj2) ∧ Aside0 (w'.heap[gb319]? = some (.cells #[(.slice A0_0 l0_0.length c0_0), .bool a0_1, .int .i64 a0_2] 24 (0, 0))) ∧ Aside0 (w'.heap[gb320]? = some (.cells #[(.slice A1_0 l1_0.length c1_0), .bool a1_1, .int .i64 a1_2] 24 (0, 0))) ∧ Aside0 (Below w.heap.size w w'))
   case atStart => exact ⟨(0), (by first | rfl | (simp; done) | (simp [*]; done)), H', ⟨Nat.le_refl _⟩, ⟨bk_ BK319⟩, ⟨bk_ BK320⟩, ⟨bl_2 HB GE319 GE320⟩⟩
   case round =>
    clear H'
    try clear c1
    try clear c2
    try clear p2
    try clear c6
    try clear c6b0
    try clear c6b1
    try clear c6b2
    try clear c7
    try clear c10
    try clear c10b0
    try clear c10b1
    try clear c11
    try clear c14
    try clear c17
    try clear c18
    try clear hcz12_0
    try clear hcz12_1
    try clear hcz12_2
    try clear hcz13_0
    try clear hcz13_1
    try clear hcz13_2
    try clear hcz15_0
    try clear hcz15_1
    try clear hcz15_2
    try clear hcz16_0
    try clear hcz16_1
    try clear hcz16_2
    try clear hcz19_0
    try clear hcz19_1
    try clear hcz19_2
    try clear hcz8_0
    try clear hcz8_1
    try clear hcz8_2
    try clear hcz9_0
    try clear hcz9_1
    try clear hcz9_2
    try clear hfz12_0
    try clear hfz12_1
    try clear hfz12_2
    try clear hfz13_0
    try clear hfz13_1
    try clear hfz13_2
    try clear hfz15_0
    try clear hfz15_1
    try clear hfz15_2
    try clear hfz16_0
    try clear hfz16_1
    try clear hfz16_2
    try clear hfz19_0
    try clear hfz19_1
    try clear hfz19_2
    try clear hfz8_0
    try clear hfz8_1
    try clear hfz8_2
    try clear hfz9_0
    try clear hfz9_1
    try clear hfz9_2
    try clear p2
    obtain ⟨x30_2, rfl, HA, HK2, BK319, BK320, HB⟩ := hrel
    cases gk with
    | zero => exact absurd HA.out (by simp [gafferref02_Same.l0])
    | succ k2 =>
     have H := HA.out
     clear HA
     simp only [gafferref02_Same.l0] at H
     by_cases c20 : x30_2 < (l0_0.length : Int)
     rotate_left
     ·rw [if_neg c20] at H
      have c20b0 : decide (x30_2 < (l0_0.length : Int)) = false := decide_eq_false c20
      clear c20
      obtain rfl := Option.some.inj H
      go_wp2
      repeat (go_quiet (fail); try go_wp2)
      go_ret
      exact ⟨by first | rfl | (simp; done) | (simp [*]; done), bl_2 HB GE319 GE320⟩


     rw [if_pos c20] at H
     have c20b0 : decide (x30_2 < (l0_0.length : Int)) = true := decide_eq_true c20
     clear c20
     by_cases c21 : 0 ≤ x30_2
     rotate_left
     ·rw [if_neg c21] at H
      exact absurd H (by simp)
     rw [if_pos c21] at H
     have c21b0 : decide (0 ≤ x30_2) = true := decide_eq_true c21
     clear c21
     by_cases c22 : x30_2 < (l0_0.length : Int)
     rotate_left
     ·rw [if_neg c22] at H
      exact absurd H (by simp)
     rw [if_pos c22] at H
     have c22b0 : decide (x30_2 < (l0_0.length : Int)) = true := decide_eq_true c22
     clear c22
     by_cases c23 : x30_2 < (l1_0.length : Int)
     rotate_left
     ·rw [if_neg c23] at H
      exact absurd H (by simp)
     rw [if_pos c23] at H
     have c23b0 : decide (x30_2 < (l1_0.length : Int)) = true := decide_eq_true c23
     clear c23
     by_cases c24 : (!((((rd_T71 l0_0 x30_2).f0).toList) == (((rd_T71 l1_0 x30_2).f0).toList)) || (!((((rd_T71 l0_0 x30_2).f1).toList) == (((rd_T71 l1_0 x30_2).f1).toList)) || (!(((rd_T71 l0_0 x30_2).f2) == ((rd_T71 l1_0 x30_2).f2))))) = true
     ·rw [if_pos c24] at H
      have c24b0 : (!((((rd_T71 l0_0 x30_2).f0).toList) == (((rd_T71 l1_0 x30_2).f0).toList)) || (!((((rd_T71 l0_0 x30_2).f1).toList) == (((rd_T71 l1_0 x30_2).f1).toList)) || (!(((rd_T71 l0_0 x30_2).f2) == ((rd_T71 l1_0 x30_2).f2))))) = true := c24
      clear c24
      obtain rfl := Option.some.inj H
      have hnb25 := NB319_320.out
      have hnc25 := NB320_319.out
      obtain ⟨hcz26_0, hcz26_1, hcz26_2, hfz26_0, hfz26_1, hfz26_2⟩ := c3_ BK319
      have p321 : 0 ≤ (x30_2 : Int) := of_decide_eq_true (by first | (with_reducible assumption) | assumption)
      have q321 : x30_2 < (l0_0.length : Int) := of_decide_eq_true (by first | (with_reducible assumption) | assumption)
      obtain ⟨ad321, e321, hx321_0, hx321_1, hx321_2⟩ := at_T71 HR0_0.out x30_2 p321 q321
      cases e321
      replace hx321_0 := (HB.out.cell (World.block_lt_of_cell? w _ hx321_0)).trans hx321_0
      replace hx321_1 := (HB.out.cell (World.block_lt_of_cell? w _ hx321_1)).trans hx321_1
      replace hx321_2 := (HB.out.cell (World.block_lt_of_cell? w _ hx321_2)).trans hx321_2
      replace p321 := eq_true p321
      replace q321 := eq_true q321
      obtain ⟨hcz27_0, hcz27_1, hcz27_2, hfz27_0, hfz27_1, hfz27_2⟩ := c3_ BK320
      have p322 : 0 ≤ (x30_2 : Int) := of_decide_eq_true (by first | (with_reducible assumption) | assumption)
      have q322 : x30_2 < (l1_0.length : Int) := of_decide_eq_true (by first | (with_reducible assumption) | assumption)
      obtain ⟨ad322, e322, hx322_0, hx322_1, hx322_2⟩ := at_T71 HR1_0.out x30_2 p322 q322
      cases e322
      replace hx322_0 := (HB.out.cell (World.block_lt_of_cell? w _ hx322_0)).trans hx322_0
      replace hx322_1 := (HB.out.cell (World.block_lt_of_cell? w _ hx322_1)).trans hx322_1
      replace hx322_2 := (HB.out.cell (World.block_lt_of_cell? w _ hx322_2)).trans hx322_2
      replace p322 := eq_true p322
      replace q322 := eq_true q322
      go_wp2
      repeat (go_quiet (fail); try go_wp2)
      go_ret
      exact ⟨by first | rfl | (simp; done) | (simp [*]; done), bl_2 HB GE319 GE320⟩
     rw [if_neg c24] at H
     have c24b0 : (!((((rd_T71 l0_0 x30_2).f0).toList) == (((rd_T71 l1_0 x30_2).f0).toList)) || (!((((rd_T71 l0_0 x30_2).f1).toList) == (((rd_T71 l1_0 x30_2).f1).toList)) || (!(((rd_T71 l0_0 x30_2).f2) == ((rd_T71 l1_0 x30_2).f2))))) = false := by simpa using c24
     clear c24
     have H' := Aside0.mk H
     clear H
     have hnb28 := NB319_320.out
     have hnc28 := NB320_319.out
     obtain ⟨hcz29_0, hcz29_1, hcz29_2, hfz29_0, hfz29_1, hfz29_2⟩ := c3_ BK319
     have p321 : 0 ≤ (x30_2 : Int) := of_decide_eq_true (by first | (with_reducible assumption) | assumption)
     have q321 : x30_2 < (l0_0.length : Int) := of_decide_eq_true (by first | (with_reducible assumption) | assumption)
     obtain ⟨ad321, e321, hx321_0, hx321_1, hx321_2⟩ := at_T71 HR0_0.out x30_2 p321 q321
     cases e321
     replace hx321_0 := (HB.out.cell (World.block_lt_of_cell? w _ hx321_0)).trans hx321_0
     replace hx321_1 := (HB.out.cell (World.block_lt_of_cell? w _ hx321_1)).trans hx321_1
     replace hx321_2 := (HB.out.cell (World.block_lt_of_cell? w _ hx321_2)).trans hx321_2
     replace p321 := eq_true p321
     replace q321 := eq_true q321
     obtain ⟨hcz30_0, hcz30_1, hcz30_2, hfz30_0, hfz30_1, hfz30_2⟩ := c3_ BK320
     have p322 : 0 ≤ (x30_2 : Int) := of_decide_eq_true (by first | (with_reducible assumption) | assumption)
     have q322 : x30_2 < (l1_0.length : Int) := of_decide_eq_true (by first | (with_reducible assumption) | assumption)
     obtain ⟨ad322, e322, hx322_0, hx322_1, hx322_2⟩ := at_T71 HR1_0.out x30_2 p322 q322
     cases e322
     replace hx322_0 := (HB.out.cell (World.block_lt_of_cell? w _ hx322_0)).trans hx322_0
     replace hx322_1 := (HB.out.cell (World.block_lt_of_cell? w _ hx322_1)).trans hx322_1
     replace hx322_2 := (HB.out.cell (World.block_lt_of_cell? w _ hx322_2)).trans hx322_2
     replace p322 := eq_true p322
     replace q322 := eq_true q322
     go_wp2
     repeat (go_quiet (fail); try go_wp2)
     go_roundg k2
     case measure => have := HJ2.out; have := HK2.out; omega
     case rel => exact ⟨(wrap64 (x30_2 + 1)), (by first | rfl | (simp; done) | (simp [*]; done)), H', ⟨by have := HJ2.out; have := HK2.out; omega⟩, ⟨bk_ BK319⟩, ⟨bk_ BK320⟩, ⟨bl_2 HB GE319 GE320⟩⟩
/-! ### gafferlaw04_HardAgain: function 7 -/
def gafferlaw04_HardAgain.l0 : Nat → Int → Int → Int → Int → List (S71) → Bool → Int → Option (Bool)
 | 0, _, _, _, _, _, _, _ => none
 | k + 1, x1, x6, x324000, x324001, x326000, x326001, x326002 => if x6 ≤ (wrap64 (Int.tmod x1 8)) then ((hard_Save.f k x326000 x326001 x326002 x324000 x324001).bind fun bt330 => (if bt330.2.2.2 = 0 then (gafferlaw04_HardAgain.l0 k x1 (wrap64 (x6 + 1)) x324000 x324001 bt330.1 bt330.2.1 bt330.2.2.1) else ((hard_Check.f x324000 x324001).bind fun t337 => (if bt330.2.2.2 = t337 then ((gafferref02_Same.f k x326000 x326001 x326002 bt330.1 bt330.2.1 bt330.2.2.1).bind fun t338 => (some t338)) else (some false))))) else ((hard_Load.f k x326000 x326001 x326002).bind fun bt326 => (if bt326.2.2 = 0 then (if (bt326.1 == x324000 && (bt326.2.1 == x324001)) = true then (some ((x326000.length : Int) == 1)) else (some false)) else (some false)))
def gafferlaw04_HardAgain.f (k : Nat) (a0_0 : Int) (a0_1 : Int) (a1 : Int) : Option (Bool) := (gafferlaw04_lives.f k).bind fun t324 => (if t324 = true then (gafferlaw04_HardAgain.l0 k a1 0 a0_0 a0_1 ([] : List (S71)) false (-1)) else (some false))
theorem gafferlaw04_HardAgain.mono_l : ∀ k, (∀ y0 y1 y2 y3 y4 y5 y6, LeO (gafferlaw04_HardAgain.l0 k y0 y1 y2 y3 y4 y5 y6) (gafferlaw04_HardAgain.l0 (k + 1) y0 y1 y2 y3 y4 y5 y6))
 | 0 => fun _ _ _ _ _ _ _ r h => by simp [gafferlaw04_HardAgain.l0] at h
 | k + 1 => by
  have ih0 := gafferlaw04_HardAgain.mono_l k
  ·intro y0 y1 y2 y3 y4 y5 y6
   unfold gafferlaw04_HardAgain.l0
   repeat' first | (with_reducible first | exact ih0 _ _ _ _ _ _ _ | exact gafferlaw04_lives.mono _ | exact gafferref02_Same.mono _ _ _ _ _ _ _ | exact hard_Load.mono _ _ _ _ | exact hard_Save.mono _ _ _ _ _ _ | exact LeO.refl _ | exact LeO.none _ | refine LeO.ite ?_ ?_ | refine LeO.bind ?_ (fun _ => ?_)) | exact ih0 _ _ _ _ _ _ _ | exact gafferlaw04_lives.mono _ | exact gafferref02_Same.mono _ _ _ _ _ _ _ | exact hard_Load.mono _ _ _ _ | exact hard_Save.mono _ _ _ _ _ _ | exact LeO.none _ | refine LeO.ite ?_ ?_ | refine LeO.bind ?_ (fun _ => ?_)
theorem gafferlaw04_HardAgain.mono : ∀ a0 a1 a2 k, LeO (gafferlaw04_HardAgain.f k a0 a1 a2) (gafferlaw04_HardAgain.f (k + 1) a0 a1 a2) := by
 intro a0 a1 a2 k
 have ih0 := gafferlaw04_HardAgain.mono_l k
 unfold gafferlaw04_HardAgain.f
 repeat' first | (with_reducible first | exact ih0 _ _ _ _ _ _ _ | exact gafferlaw04_lives.mono _ | exact gafferref02_Same.mono _ _ _ _ _ _ _ | exact hard_Load.mono _ _ _ _ | exact hard_Save.mono _ _ _ _ _ _ | exact LeO.refl _ | exact LeO.none _ | refine LeO.ite ?_ ?_ | refine LeO.bind ?_ (fun _ => ?_)) | exact ih0 _ _ _ _ _ _ _ | exact gafferlaw04_lives.mono _ | exact gafferref02_Same.mono _ _ _ _ _ _ _ | exact hard_Load.mono _ _ _ _ | exact hard_Save.mono _ _ _ _ _ _ | exact LeO.none _ | refine LeO.ite ?_ ?_ | refine LeO.bind ?_ (fun _ => ?_)
set_option maxHeartbeats 80000000 in
set_option maxRecDepth 100000 in
theorem gafferlaw04_HardAgain.calls (k : Nat) (a0_0 : Int) (a0_1 : Int) (a1 : Int) (r : Bool) (w : World) (h : gafferlaw04_HardAgain.f k a0_0 a0_1 a1 = some r) (hr : r = true) :
  Calls Try.prog 7 #[.agg #[.int .u64 a0_0, .int .i64 a0_1], .int .u8 a1] w fun e w' => e = .returned (.bool r) ∧ Below w.heap.size w w' := by
 have hu27 := Try.underlying27
 have hu24 := Try.underlying24
 have HB := Aside0.mk (Below.refl w.heap.size w)
 have H : ((gafferlaw04_lives.f k).bind fun t324 => (if t324 = true then (gafferlaw04_HardAgain.l0 k a1 0 a0_0 a0_1 ([] : List (S71)) false (-1)) else (some false))) = some r := h
 clear h
 obtain ⟨t324, A30, H⟩ := Option.bind_eq_some_iff.mp H
 try dsimp only at H
 have A3 := Aside0.mk A30
 clear A30
 by_cases c4 : t324 = true
 rotate_left
 ·replace c4 := Bool.eq_false_iff.mpr c4
  subst c4
  have H1 : (some false) = some r := by rw [if_neg (show ¬ (false = true) by decide)] at H; exact H
  clear H
  have H := H1
  clear H1
  exact absurd (H.trans (congrArg some hr)) (by simp)

 subst c4
 have H1 : (gafferlaw04_HardAgain.l0 k a1 0 a0_0 a0_1 ([] : List (S71)) false (-1)) = some r := by rw [if_pos rfl] at H; exact H
 clear H
 have H := H1
 clear H1
 have H' := Aside0.mk H
 clear H
 go_enter Try.func7, Try.ntmps7
 go_wp2_with (first | ((with_reducible refine gate_dst (N := 2) rfl ?_); (try (refine gate_guard (by rfl) ?_; dsimp only)); refine bx_ 2 #[.int .u64 a0_0, .int .i64 a0_1] 27 ?_; intro gb323 hg w5 hbox hb; have BK323 := Aside0.mk (hbox); have GE323 := Aside0.mk (bs_0 hg HB); replace HB := Aside0.mk (below_step (bl_ HB) hb); clear hb hbox hg) | ((with_reducible refine gate_callee (f := 19) rfl ?_); refine goesL_ (some 11) rfl rfl Try.func19 (by kernel_rfl) rfl #[] rfl (ar_) ?_; (with_reducible refine (gafferlaw04_lives.calls k  true _ A3.out).mono ?_); rintro e w6 ⟨rfl, hb⟩; refine ⟨_, rfl, ?_⟩; replace BK323 := Aside0.mk (bb_ BK323 hb); replace HB := Aside0.mk (below_step (bl_1 HB GE323) hb); (try clear hb)) | ((with_reducible refine gate_dst (N := 5) rfl ?_); (try (refine gate_guard (by rfl) ?_; dsimp only)); refine bx_ 5 #[.slice none 0 0, .bool false, .int .i64 0] 24 ?_; intro gb325 hg w7 hbox hb; have BK325 := Aside0.mk (hbox); have GE325 := Aside0.mk (bs_1 hg HB GE323); replace HB := Aside0.mk (below_step (bl_1 HB GE323) hb); have NB323_325 := Aside0.mk (nb_ hg BK323); have NB325_323 := Aside0.mk (nc_ hg BK323); replace BK323 := Aside0.mk (bb_ BK323 hb); clear hb hbox hg; have hnb8 := NB325_323.out; have hnc8 := NB323_325.out; obtain ⟨hcz9_0, hcz9_1, hcz9_2, hfz9_0, hfz9_1, hfz9_2⟩ := c3_ BK325))
 go_loopg [6] k (fun kq v6 w' => ∃ (x6_1 : Int) (x326000_1 : List (S71)) (x326001_1 : Bool) (x326002_1 : Int) (u326000 : Value), v6 = .int .i64 x6_1 ∧ Aside0 (gafferlaw04_HardAgain.l0 kq a1 x6_1 a0_0 a0_1 x326000_1 x326001_1 x326002_1 = some r) ∧ Aside0 (kq ≤ k) ∧ Aside0 (Kd.R k71 71 w' w.heap.size (fun _ => True) u326000 x326000_1) ∧ Aside0 (w'.heap[gb323]? = some (.cells #[.int .u64 a0_0, .int .i64 a0_1] 27 (0, 0))) ∧ Aside0 (w'.heap[gb325]? = some (.cells #[u326000, .bool x326001_1, .int .i64 x326002_1] 24 (0, 0))) ∧ Aside0 (Below w.heap.size w w'))
 case atStart => exact ⟨(0), (([] : List (S71))), (false), ((-1)), (.slice none 0 0), (by first | rfl | (simp; done) | (simp [*]; done)), H', ⟨Nat.le_refl _⟩, ⟨by first | exact Kd.R_nil _ _ _ _ _ | exact Kd.N_nil _ _ _ _ _ | exact Kd.V_nil _ _ _ _ _ | exact Kd.Q_nil _ _ _ _ _ | exact Kd.S_nil _ _ _ _ _⟩, ⟨by (with_reducible repeat (first | refine blk_drewN ?_ _ | refine blk_drew ?_ | refine blk_alloc ?_ _)); refine blk_far ?_ NB323_325.out _; (with_reducible repeat (first | refine blk_drewN ?_ _ | refine blk_drew ?_ | refine blk_alloc ?_ _)); refine blk_far ?_ NB323_325.out _; (with_reducible repeat (first | refine blk_drewN ?_ _ | refine blk_drew ?_ | refine blk_alloc ?_ _)); refine blk_far ?_ NB323_325.out _; (with_reducible repeat (first | refine blk_drewN ?_ _ | refine blk_drew ?_ | refine blk_alloc ?_ _)); exact BK323.out⟩, ⟨by (with_reducible repeat (first | refine blk_drewN ?_ _ | refine blk_drew ?_ | refine blk_alloc ?_ _)); refine blk_put (cs := #[.slice none 0 0, .bool false, .int .i64 0]) ?_ 2 _ rfl; (with_reducible repeat (first | refine blk_drewN ?_ _ | refine blk_drew ?_ | refine blk_alloc ?_ _)); refine blk_put (cs := #[.slice none 0 0, .bool false, .int .i64 0]) ?_ 1 _ rfl; (with_reducible repeat (first | refine blk_drewN ?_ _ | refine blk_drew ?_ | refine blk_alloc ?_ _)); refine blk_put (cs := #[.slice none 0 0, .bool false, .int .i64 0]) ?_ 0 _ rfl; (with_reducible repeat (first | refine blk_drewN ?_ _ | refine blk_drew ?_ | refine blk_alloc ?_ _)); exact BK325.out⟩, ⟨bl_2 HB GE323 GE325⟩⟩
 case round =>
  clear H'
  try clear c1
  try clear p2
  try clear c4
  try clear c7
  try clear c8
  try clear hcz9_0
  try clear hcz9_1
  try clear hcz9_2
  try clear hfz9_0
  try clear hfz9_1
  try clear hfz9_2
  obtain ⟨x6_1, x326000_1, x326001_1, x326002_1, u326000, rfl, HA, HK1, HO_326000, BK323, BK325, HB⟩ := hrel
  cases gk with
  | zero => exact absurd HA.out (by simp [gafferlaw04_HardAgain.l0])
  | succ k1 =>
   have H := HA.out
   clear HA
   simp only [gafferlaw04_HardAgain.l0] at H
   by_cases c10 : x6_1 ≤ (wrap64 (Int.tmod a1 8))
   rotate_left
   ·rw [if_neg c10] at H
    have c10b0 : decide (x6_1 ≤ (wrap64 (Int.tmod a1 8))) = false := decide_eq_false c10
    clear c10
    obtain ⟨⟨t326, t327, t328⟩, A420, H⟩ := Option.bind_eq_some_iff.mp H
    try dsimp only at H
    have A42 := Aside0.mk A420
    clear A420
    by_cases c43 : t328 = 0
    rotate_left
    ·rw [if_neg c43] at H
     have c43b0 : (t328 == 0) = false := beq_eq_false_iff_ne.mpr c43
     have c43b1 : (t328 != 0) = true := bne_iff_ne.mpr c43
     exact absurd (H.trans (congrArg some hr)) (by simp)
    rw [if_pos c43] at H
    have c43b0 : (t328 == 0) = true := beq_iff_eq.mpr c43
    have c43b1 : (t328 != 0) = false := bne_eq_false_iff_eq.mpr c43
    clear c43
    by_cases c44 : (t326 == a0_0 && (t327 == a0_1)) = true
    rotate_left
    ·rw [if_neg c44] at H
     have c44b0 : (t326 == a0_0 && (t327 == a0_1)) = false := by simpa using c44
     (try (have c44b1 : decide (t326 = a0_0 && (t327 == a0_1)) = false := by simpa using c44))
     (try (have c44b2 : (t326 == a0_0 && (t327 == a0_1)) = false := by simpa using c44))
     (try (have c44b3 : ¬ (t326 = a0_0 && (t327 == a0_1)) := by simpa using c44))
     clear c44
     exact absurd (H.trans (congrArg some hr)) (by simp)
    rw [if_pos c44] at H
    have c44b0 : (t326 == a0_0 && (t327 == a0_1)) = true := c44
    (try (have c44b1 : decide (t326 = a0_0 && (t327 == a0_1)) = true := by simpa using c44))
    (try (have c44b2 : (t326 == a0_0 && (t327 == a0_1)) = true := by simpa using c44))
    clear c44
    obtain rfl := Option.some.inj H
    have hnb45 := NB325_323.out
    have hnc45 := NB323_325.out
    obtain ⟨hcz46_0, hcz46_1, hcz46_2, hfz46_0, hfz46_1, hfz46_2⟩ := c3_ BK325
    obtain ⟨Ao47, co47, eo47⟩ := Kd.R_slice HO_326000.out
    subst eo47
    go_wp2_with (first | ((with_reducible refine gate_callee (f := 15) rfl ?_); refine goesL_ (some 41) rfl rfl Try.func15 (by kernel_rfl) rfl #[.agg #[.slice Ao47 x326000_1.length co47, .bool x326001_1, .int .i64 x326002_1]] rfl (ar_) ?_; (with_reducible refine (hard_Load.calls k1 _ _ x326000_1 x326001_1 x326002_1 t326 t327 t328 _ ?side1 ?side2 A42.out).mono ?_); (case side1 => exact cl_ ((Kd.R_reads' HO_326000.out).2.2)); (case side2 => exact (Kd.R_reads' HO_326000.out).2.1); rintro e w48 ⟨rfl, hb⟩; refine ⟨_, rfl, ?_⟩; replace HO_326000 := Aside0.mk (Kd.R_below (by (with_reducible repeat (first | apply Kd.R_alloc | apply Kd.R_drewN | apply Kd.R_drew)); exact HO_326000.out) hb); replace BK323 := Aside0.mk (bb_ BK323 hb); replace BK325 := Aside0.mk (bb_ BK325 hb); replace HB := Aside0.mk (below_step (bl_2 HB GE323 GE325) hb); (try clear hb)) | ((with_reducible refine gate_dst (N := 9) rfl ?_); (try (refine gate_guard (by rfl) ?_; dsimp only)); refine bx_ 9 #[.int .u64 0, .int .i64 0] 27 ?_; intro gb329 hg w49 hbox hb; replace HO_326000 := Aside0.mk (Kd.R_below (by (with_reducible repeat (first | apply Kd.R_alloc | apply Kd.R_drewN | apply Kd.R_drew)); exact HO_326000.out) hb); have BK329 := Aside0.mk (hbox); have GE329 := Aside0.mk (bs_2 hg HB GE323 GE325); replace HB := Aside0.mk (below_step (bl_2 HB GE323 GE325) hb); have NB323_329 := Aside0.mk (nb_ hg BK323); have NB329_323 := Aside0.mk (nc_ hg BK323); replace BK323 := Aside0.mk (bb_ BK323 hb); have NB325_329 := Aside0.mk (nb_ hg BK325); have NB329_325 := Aside0.mk (nc_ hg BK325); replace BK325 := Aside0.mk (bb_ BK325 hb); clear hb hbox hg; have hnb50 := NB329_323.out; have hnc50 := NB323_329.out; have hnb51 := NB329_325.out; have hnc51 := NB325_329.out; obtain ⟨hcz52_0, hcz52_1, hfz52_0, hfz52_1⟩ := c2_ BK329; obtain ⟨hcz53_0, hcz53_1, hfz53_0, hfz53_1⟩ := c2_ BK323; obtain ⟨hcz54_0, hcz54_1, hcz54_2, hfz54_0, hfz54_1, hfz54_2⟩ := c3_ BK325))
    go_ret
    exact ⟨by first | rfl | (simp; done) | (simp [*]; done), bl_3 HB GE323 GE325 GE329⟩
   rw [if_pos c10] at H
   have c10b0 : decide (x6_1 ≤ (wrap64 (Int.tmod a1 8))) = true := decide_eq_true c10
   clear c10
   obtain ⟨⟨t330, t333, t334, t335⟩, A110, H⟩ := Option.bind_eq_some_iff.mp H
   try dsimp only at H
   have A11 := Aside0.mk A110
   clear A110
   by_cases c12 : t335 = 0
   ·rw [if_pos c12] at H
    have c12b0 : (t335 == 0) = true := beq_iff_eq.mpr c12
    have c12b1 : (t335 != 0) = false := bne_eq_false_iff_eq.mpr c12
    clear c12
    have H' := Aside0.mk H
    clear H
    have hnb13 := NB325_323.out
    have hnc13 := NB323_325.out
    obtain ⟨hcz14_0, hcz14_1, hcz14_2, hfz14_0, hfz14_1, hfz14_2⟩ := c3_ BK325
    obtain ⟨hcz15_0, hcz15_1, hfz15_0, hfz15_1⟩ := c2_ BK323
    obtain ⟨Ao16, co16, eo16⟩ := Kd.R_slice HO_326000.out
    subst eo16
    go_wp2_with (first | ((with_reducible refine gate_callee (f := 17) rfl ?_); refine goesL_ (some 24) rfl rfl Try.func17 (by kernel_rfl) rfl #[.agg #[.slice Ao16 x326000_1.length co16, .bool x326001_1, .int .i64 x326002_1], .agg #[.int .u64 a0_0, .int .i64 a0_1]] rfl (ar_) ?_; (with_reducible refine (hard_Save.calls k1 _ _ x326000_1 x326001_1 x326002_1 a0_0 a0_1 t330 t333 t334 t335 _ ?side1 ?side2 A11.out).mono ?_); (case side1 => exact cl_ ((Kd.R_reads' HO_326000.out).2.2)); (case side2 => exact (Kd.R_reads' HO_326000.out).2.1); rintro e w17 ⟨v331, rfl, ho0, hb⟩; refine ⟨_, rfl, ?_⟩; have HO332 := Aside0.mk (Kd.R_lower (Kd.R_new' ho0 (Kd.R_lt (by (with_reducible repeat (first | apply Kd.R_alloc | apply Kd.R_drewN | apply Kd.R_drew)); exact HO_326000.out))) (below_size (bl_2 HB GE323 GE325))); replace HO_326000 := Aside0.mk (Kd.R_elder' (by (with_reducible repeat (first | apply Kd.R_alloc | apply Kd.R_drewN | apply Kd.R_drew)); exact HO_326000.out) (Kd.R_base ho0) hb); replace BK323 := Aside0.mk (bb_ BK323 hb); replace BK325 := Aside0.mk (bb_ BK325 hb); replace HB := Aside0.mk (below_step (bl_2 HB GE323 GE325) hb); (try clear hb); (try clear ho0)) | ((with_reducible refine gate_dst (N := 7) rfl ?_); (try (refine gate_guard (by rfl) ?_; dsimp only)); refine bx_ 7 #[.slice none 0 0, .bool false, .int .i64 0] 24 ?_; intro gb336 hg w18 hbox hb; replace HO_326000 := Aside0.mk (Kd.R_below (by (with_reducible repeat (first | apply Kd.R_alloc | apply Kd.R_drewN | apply Kd.R_drew)); exact HO_326000.out) hb); replace HO332 := Aside0.mk (Kd.R_below (by (with_reducible repeat (first | apply Kd.R_alloc | apply Kd.R_drewN | apply Kd.R_drew)); exact HO332.out) hb); have BK336 := Aside0.mk (hbox); have GE336 := Aside0.mk (bs_2 hg HB GE323 GE325); replace HB := Aside0.mk (below_step (bl_2 HB GE323 GE325) hb); have NB323_336 := Aside0.mk (nb_ hg BK323); have NB336_323 := Aside0.mk (nc_ hg BK323); replace BK323 := Aside0.mk (bb_ BK323 hb); have NB325_336 := Aside0.mk (nb_ hg BK325); have NB336_325 := Aside0.mk (nc_ hg BK325); replace BK325 := Aside0.mk (bb_ BK325 hb); clear hb hbox hg; obtain ⟨Ao19, co19, eo19⟩ := Kd.R_slice HO332.out; subst eo19; have hnb20 := NB336_323.out; have hnc20 := NB323_336.out; have hnb21 := NB336_325.out; have hnc21 := NB325_336.out; obtain ⟨hcz22_0, hcz22_1, hcz22_2, hfz22_0, hfz22_1, hfz22_2⟩ := c3_ BK336; obtain ⟨hcz23_0, hcz23_1, hcz23_2, hfz23_0, hfz23_1, hfz23_2⟩ := c3_ BK325))
    go_roundg k1
    case measure => have := HK1.out; omega
    case rel => exact ⟨(wrap64 (x6_1 + 1)), (t330), (t333), (t334), (.slice Ao19 t330.length co19), (by first | rfl | (simp; done) | (simp [*]; done)), H', ⟨by have := HK1.out; omega⟩, ⟨by (with_reducible repeat (first | apply Kd.R_alloc | apply Kd.R_drewN | apply Kd.R_drew)); exact Kd.R_mono (Kd.R_far (p := ⟨gb325, 2, none⟩) (Kd.R_far (p := ⟨gb325, 1, none⟩) (Kd.R_far (p := ⟨gb325, 0, none⟩) (Kd.R_far (p := ⟨gb336, 2, none⟩) (Kd.R_far (p := ⟨gb336, 1, none⟩) (Kd.R_far (p := ⟨gb336, 0, none⟩) (Kd.R_types (Kd.R_types HO332.out BK336.out (by decide)) BK325.out (by decide)) (fun _ hk => hk.1.2) (.slice Ao19 t330.length co19)) (fun _ hk => hk.1.2) (.bool t333)) (fun _ hk => hk.1.2) (.int .i64 t334)) (fun _ hk => hk.2) (.slice Ao19 t330.length co19)) (fun _ hk => hk.2) (.bool t333)) (fun _ hk => hk.2) (.int .i64 t334)) (fun _ hk => trivial)⟩, ⟨by (with_reducible repeat (first | refine blk_drewN ?_ _ | refine blk_drew ?_ | refine blk_alloc ?_ _)); refine blk_far ?_ NB323_325.out _; (with_reducible repeat (first | refine blk_drewN ?_ _ | refine blk_drew ?_ | refine blk_alloc ?_ _)); refine blk_far ?_ NB323_325.out _; (with_reducible repeat (first | refine blk_drewN ?_ _ | refine blk_drew ?_ | refine blk_alloc ?_ _)); refine blk_far ?_ NB323_325.out _; (with_reducible repeat (first | refine blk_drewN ?_ _ | refine blk_drew ?_ | refine blk_alloc ?_ _)); refine blk_far ?_ NB323_336.out _; (with_reducible repeat (first | refine blk_drewN ?_ _ | refine blk_drew ?_ | refine blk_alloc ?_ _)); refine blk_far ?_ NB323_336.out _; (with_reducible repeat (first | refine blk_drewN ?_ _ | refine blk_drew ?_ | refine blk_alloc ?_ _)); refine blk_far ?_ NB323_336.out _; (with_reducible repeat (first | refine blk_drewN ?_ _ | refine blk_drew ?_ | refine blk_alloc ?_ _)); exact BK323.out⟩, ⟨by (with_reducible repeat (first | refine blk_drewN ?_ _ | refine blk_drew ?_ | refine blk_alloc ?_ _)); refine blk_put (cs := #[.slice Ao19 t330.length co19, .bool t333, .int .i64 x326002_1]) ?_ 2 _ rfl; (with_reducible repeat (first | refine blk_drewN ?_ _ | refine blk_drew ?_ | refine blk_alloc ?_ _)); refine blk_put (cs := #[.slice Ao19 t330.length co19, .bool x326001_1, .int .i64 x326002_1]) ?_ 1 _ rfl; (with_reducible repeat (first | refine blk_drewN ?_ _ | refine blk_drew ?_ | refine blk_alloc ?_ _)); refine blk_put (cs := #[.slice Ao16 x326000_1.length co16, .bool x326001_1, .int .i64 x326002_1]) ?_ 0 _ rfl; (with_reducible repeat (first | refine blk_drewN ?_ _ | refine blk_drew ?_ | refine blk_alloc ?_ _)); refine blk_far ?_ NB325_336.out _; (with_reducible repeat (first | refine blk_drewN ?_ _ | refine blk_drew ?_ | refine blk_alloc ?_ _)); refine blk_far ?_ NB325_336.out _; (with_reducible repeat (first | refine blk_drewN ?_ _ | refine blk_drew ?_ | refine blk_alloc ?_ _)); refine blk_far ?_ NB325_336.out _; (with_reducible repeat (first | refine blk_drewN ?_ _ | refine blk_drew ?_ | refine blk_alloc ?_ _)); exact BK325.out⟩, ⟨bl_3 HB GE323 GE325 GE336⟩⟩
   rw [if_neg c12] at H
   have c12b0 : (t335 == 0) = false := beq_eq_false_iff_ne.mpr c12
   have c12b1 : (t335 != 0) = true := bne_iff_ne.mpr c12
   obtain ⟨t337, A240, H⟩ := Option.bind_eq_some_iff.mp H
   try dsimp only at H
   have A24 := Aside0.mk A240
   clear A240
   by_cases c25 : t335 = t337
   rotate_left
   ·rw [if_neg c25] at H
    have c25b0 : (t335 == t337) = false := beq_eq_false_iff_ne.mpr c25
    have c25b1 : (t335 != t337) = true := bne_iff_ne.mpr c25
    exact absurd (H.trans (congrArg some hr)) (by simp)
   rw [if_pos c25] at H
   have c25b0 : (t335 == t337) = true := beq_iff_eq.mpr c25
   have c25b1 : (t335 != t337) = false := bne_eq_false_iff_eq.mpr c25
   clear c25
   obtain ⟨t338, A260, H⟩ := Option.bind_eq_some_iff.mp H
   try dsimp only at H
   have A26 := Aside0.mk A260
   clear A260
   obtain rfl := Option.some.inj H
   have hnb27 := NB325_323.out
   have hnc27 := NB323_325.out
   obtain ⟨hcz28_0, hcz28_1, hcz28_2, hfz28_0, hfz28_1, hfz28_2⟩ := c3_ BK325
   obtain ⟨hcz29_0, hcz29_1, hfz29_0, hfz29_1⟩ := c2_ BK323
   obtain ⟨Ao30, co30, eo30⟩ := Kd.R_slice HO_326000.out
   subst eo30
   go_wp2_with (first | ((with_reducible refine gate_callee (f := 17) rfl ?_); refine goesL_ (some 24) rfl rfl Try.func17 (by kernel_rfl) rfl #[.agg #[.slice Ao30 x326000_1.length co30, .bool x326001_1, .int .i64 x326002_1], .agg #[.int .u64 a0_0, .int .i64 a0_1]] rfl (ar_) ?_; (with_reducible refine (hard_Save.calls k1 _ _ x326000_1 x326001_1 x326002_1 a0_0 a0_1 t330 t333 t334 t335 _ ?side1 ?side2 A11.out).mono ?_); (case side1 => exact cl_ ((Kd.R_reads' HO_326000.out).2.2)); (case side2 => exact (Kd.R_reads' HO_326000.out).2.1); rintro e w31 ⟨v331, rfl, ho0, hb⟩; refine ⟨_, rfl, ?_⟩; have HO332 := Aside0.mk (Kd.R_lower (Kd.R_new' ho0 (Kd.R_lt (by (with_reducible repeat (first | apply Kd.R_alloc | apply Kd.R_drewN | apply Kd.R_drew)); exact HO_326000.out))) (below_size (bl_2 HB GE323 GE325))); replace HO_326000 := Aside0.mk (Kd.R_elder' (by (with_reducible repeat (first | apply Kd.R_alloc | apply Kd.R_drewN | apply Kd.R_drew)); exact HO_326000.out) (Kd.R_base ho0) hb); replace BK323 := Aside0.mk (bb_ BK323 hb); replace BK325 := Aside0.mk (bb_ BK325 hb); replace HB := Aside0.mk (below_step (bl_2 HB GE323 GE325) hb); (try clear hb); (try clear ho0)) | ((with_reducible refine gate_dst (N := 7) rfl ?_); (try (refine gate_guard (by rfl) ?_; dsimp only)); refine bx_ 7 #[.slice none 0 0, .bool false, .int .i64 0] 24 ?_; intro gb336 hg w32 hbox hb; replace HO_326000 := Aside0.mk (Kd.R_below (by (with_reducible repeat (first | apply Kd.R_alloc | apply Kd.R_drewN | apply Kd.R_drew)); exact HO_326000.out) hb); replace HO332 := Aside0.mk (Kd.R_below (by (with_reducible repeat (first | apply Kd.R_alloc | apply Kd.R_drewN | apply Kd.R_drew)); exact HO332.out) hb); have BK336 := Aside0.mk (hbox); have GE336 := Aside0.mk (bs_2 hg HB GE323 GE325); replace HB := Aside0.mk (below_step (bl_2 HB GE323 GE325) hb); have NB323_336 := Aside0.mk (nb_ hg BK323); have NB336_323 := Aside0.mk (nc_ hg BK323); replace BK323 := Aside0.mk (bb_ BK323 hb); have NB325_336 := Aside0.mk (nb_ hg BK325); have NB336_325 := Aside0.mk (nc_ hg BK325); replace BK325 := Aside0.mk (bb_ BK325 hb); clear hb hbox hg; obtain ⟨Ao33, co33, eo33⟩ := Kd.R_slice HO332.out; subst eo33; have hnb34 := NB336_323.out; have hnc34 := NB323_336.out; have hnb35 := NB336_325.out; have hnc35 := NB325_336.out; obtain ⟨hcz36_0, hcz36_1, hcz36_2, hfz36_0, hfz36_1, hfz36_2⟩ := c3_ BK336; obtain ⟨hcz37_0, hcz37_1, hfz37_0, hfz37_1⟩ := c2_ BK323) | ((with_reducible refine gate_callee (f := 21) rfl ?_); refine goesL_ (some 31) rfl rfl Try.func21 (by kernel_rfl) rfl #[.agg #[.int .u64 a0_0, .int .i64 a0_1]] rfl (ar_) ?_; (with_reducible refine (hard_Check.calls a0_0 a0_1 t337 _ A24.out).mono ?_); rintro e w38 ⟨rfl, hb⟩; refine ⟨_, rfl, ?_⟩; replace HO_326000 := Aside0.mk (Kd.R_below (by (with_reducible repeat (first | apply Kd.R_alloc | apply Kd.R_drewN | apply Kd.R_drew)); exact (Kd.R_mono (Kd.R_far (p := ⟨gb336, 2, none⟩) (Kd.R_far (p := ⟨gb336, 1, none⟩) (Kd.R_far (p := ⟨gb336, 0, none⟩) (Kd.R_types HO_326000.out BK336.out (by decide)) (fun _ hk => hk.2) (.slice Ao33 t330.length co33)) (fun _ hk => hk.2) (.bool t333)) (fun _ hk => hk.2) (.int .i64 t334)) (fun _ h_ => h_.1))) hb); replace HO332 := Aside0.mk (Kd.R_below (by (with_reducible repeat (first | apply Kd.R_alloc | apply Kd.R_drewN | apply Kd.R_drew)); exact (Kd.R_mono (Kd.R_far (p := ⟨gb336, 2, none⟩) (Kd.R_far (p := ⟨gb336, 1, none⟩) (Kd.R_far (p := ⟨gb336, 0, none⟩) (Kd.R_types HO332.out BK336.out (by decide)) (fun _ hk => hk.2) (.slice Ao33 t330.length co33)) (fun _ hk => hk.2) (.bool t333)) (fun _ hk => hk.2) (.int .i64 t334)) (fun _ h_ => h_.1))) hb); replace BK323 := Aside0.mk (blk_below (g := gb323) (o := .cells #[.int .u64 a0_0, .int .i64 a0_1] 27 (0, 0)) (bp_1 BK323 NB323_336) hb); replace BK325 := Aside0.mk (blk_below (g := gb325) (o := .cells #[.slice Ao30 x326000_1.length co30, .bool x326001_1, .int .i64 x326002_1] 24 (0, 0)) (bp_1 BK325 NB325_336) hb); replace BK336 := Aside0.mk (blk_below (g := gb336) (o := .cells #[.slice Ao33 t330.length co33, .bool t333, .int .i64 t334] 24 (0, 0)) (bp_0 BK336) hb); replace HB := Aside0.mk (below_step (bl_3 HB GE323 GE325 GE336) hb); (try clear hb); obtain ⟨hcz39_0, hcz39_1, hcz39_2, hfz39_0, hfz39_1, hfz39_2⟩ := c3_ BK325; obtain ⟨hcz40_0, hcz40_1, hcz40_2, hfz40_0, hfz40_1, hfz40_2⟩ := c3_ BK336) | (go_at_call 20; (with_reducible refine (gafferref02_Same.calls k1 _ _ x326000_1 x326001_1 x326002_1 _ _ t330 t333 t334 t338 _ ?side1 ?side2 ?side3 ?side4 A26.out).mono ?_); (case side1 => exact cl_ ((Kd.R_reads' HO_326000.out).2.2)); (case side2 => exact (Kd.R_reads' HO_326000.out).2.1); (case side3 => exact cl_ ((Kd.R_reads' HO332.out).2.2)); (case side4 => exact (Kd.R_reads' HO332.out).2.1); rintro e w41 ⟨rfl, hb⟩; replace HO_326000 := Aside0.mk (Kd.R_below (by (with_reducible repeat (first | apply Kd.R_alloc | apply Kd.R_drewN | apply Kd.R_drew)); exact HO_326000.out) hb); replace HO332 := Aside0.mk (Kd.R_below (by (with_reducible repeat (first | apply Kd.R_alloc | apply Kd.R_drewN | apply Kd.R_drew)); exact HO332.out) hb); replace BK323 := Aside0.mk (bb_ BK323 hb); replace BK325 := Aside0.mk (bb_ BK325 hb); replace BK336 := Aside0.mk (bb_ BK336 hb); replace HB := Aside0.mk (below_step (bl_3 HB GE323 GE325 GE336) hb); (try clear hb)))
   go_ret
   exact ⟨by first | rfl | (simp; done) | (simp [*]; done), bl_3 HB GE323 GE325 GE336⟩
/-- THE ONE PURE STATEMENT of gafferlaw04_HardAgain: yours. -/
def gafferlaw04_HardAgain.Pure : Prop := ∀ (x0 : S27) (x1 : Int), ok27 x0 → (okInt .u8) x1 → ∃ k, gafferlaw04_HardAgain.f k x0.f0 x0.f1 x1 = some true

end Go.Proofs.Ytpigjmjbfpipnaa.PB
