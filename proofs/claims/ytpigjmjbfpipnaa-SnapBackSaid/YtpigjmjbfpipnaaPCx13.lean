-- Written for this claim by a program of this session. Lean checks it.
import Derived.Test.YtpigjmjbfpipnaaPCx0
import Derived.Test.YtpigjmjbfpipnaaPCx1
import Derived.Test.YtpigjmjbfpipnaaPCx2
import Derived.Test.YtpigjmjbfpipnaaPCx3
import Derived.Test.YtpigjmjbfpipnaaPCx6
import Derived.Test.YtpigjmjbfpipnaaPCx7
import Derived.Test.YtpigjmjbfpipnaaPCx12
namespace Go.Proofs.Ytpigjmjbfpipnaa.PC
open Go.RowKit Go.Proofs.YtpigjmjbfpipnaaW.PrintWords Go.Proofs.YtpigjmjbfpipnaaW.PrintLast Go.Proofs.YtpigjmjbfpipnaaW.PrintMore Go.Proofs.Ytpigjmjbfpipnaa.Sh Go.Proofs.Ytpigjmjbfpipnaa.Op
attribute [local go_sem] max2_int min2_int max_two min_two max_three min_three max_four min_four   -- for this text's walks alone
set_option linter.unusedVariables false
set_option linter.unusedSimpArgs false

/-! ### gafferlaw05_SnapCodes: function 8 -/
def gafferlaw05_SnapCodes.f (k : Nat) (a0_0 : Int) (a0_1 : Int) (l0_2 : List Int) (a0_3 : ByteArray) (a1 : ByteArray) : Option (Bool) := (snap_Encode.f k a0_0 a0_1 l0_2 a0_3).bind fun bt446 => ((gafferref05_Encode.f k a0_0 a0_1 l0_2 a0_3).bind fun bt448 => ((snap_Decode.f k a1).bind fun bt450 => ((gafferref05_Decode.f k a1).bind fun bt458 => ((gafferlaw05_lives.f k).bind fun t466 => (if t466 = true then (if bt446.1.toList = bt448.1.toList then (if bt446.2 = bt448.2 then ((gafferref05_Same.f k bt450.1 bt450.2.1 bt450.2.2.1 bt450.2.2.2.1 bt458.1 bt458.2.1 bt458.2.2.1 bt458.2.2.2.1).bind fun t467 => (if t467 = true then (if bt450.2.2.2.2 = bt458.2.2.2.2 then ((snap_Check.f k a0_0 a0_1 l0_2 a0_3).bind fun t468 => ((gafferref05_Check.f k a0_0 a0_1 l0_2 a0_3).bind fun t469 => (some (t468 == t469)))) else (some false)) else (some false))) else (some false)) else (some false)) else (some false))))))
theorem gafferlaw05_SnapCodes.mono : ∀ a0 a1 a2 a3 a4 k, LeO (gafferlaw05_SnapCodes.f k a0 a1 a2 a3 a4) (gafferlaw05_SnapCodes.f (k + 1) a0 a1 a2 a3 a4) := by
 intro a0 a1 a2 a3 a4 k
 unfold gafferlaw05_SnapCodes.f
 repeat' first | (with_reducible first | exact gafferlaw05_lives.mono _ | exact gafferref05_Check.mono _ _ _ _ _ | exact gafferref05_Decode.mono _ _ | exact gafferref05_Encode.mono _ _ _ _ _ | exact gafferref05_Same.mono _ _ _ _ _ _ _ _ _ | exact snap_Check.mono _ _ _ _ _ | exact snap_Decode.mono _ _ | exact snap_Encode.mono _ _ _ _ _ | exact LeO.refl _ | exact LeO.none _ | refine LeO.ite ?_ ?_ | refine LeO.bind ?_ (fun _ => ?_)) | exact gafferlaw05_lives.mono _ | exact gafferref05_Check.mono _ _ _ _ _ | exact gafferref05_Decode.mono _ _ | exact gafferref05_Encode.mono _ _ _ _ _ | exact gafferref05_Same.mono _ _ _ _ _ _ _ _ _ | exact snap_Check.mono _ _ _ _ _ | exact snap_Decode.mono _ _ | exact snap_Encode.mono _ _ _ _ _ | exact LeO.none _ | refine LeO.ite ?_ ?_ | refine LeO.bind ?_ (fun _ => ?_)
def gafferlaw05_SnapCodes.T5 : Bool × List (List Nat × List Nat) := (true, [([], []), ([0, 0], [0]), ([1], [1]), ([1], [1]), ([2, 3, 1], [1, 2, 3]), ([1, 4], [1, 4]), ([5, 1], [5]), ([6], [6]), ([6], [6]), ([7, 8, 6], [6, 7, 8]), ([6, 9], [6, 9]), ([10, 6], [10]), ([11], [11]), ([11], [11]), ([12, 13, 11, 11], [11, 12, 13]), ([11, 14], [11, 14]), ([15, 14], [15]), ([16], [16]), ([16], [16]), ([17, 18, 16], [16, 17, 18]), ([16, 19], [16, 19]), ([20, 16], [20]), ([21], [21]), ([22, 21, 21], [21, 22]), ([21], [21]), ([24, 23, 21], [21, 24]), ([23, 25, 21], [21, 23, 25]), ([21, 26], [21, 26]), ([27, 25, 0, 1, 2, 3, 4, 5, 6, 7, 8, 9, 10, 11, 12, 13, 14, 15, 16, 17, 18, 19, 20, 21, 22, 23, 24, 25, 26, 27], [27])])
def gafferlaw05_SnapCodes.B5 : List Nat := [0, 1, 3, 3, 15, 31, 63, 127, 127, 511, 1023, 2047, 4095, 4095, 16383, 32767, 65535, 131071, 131071, 524287, 1048575, 2097151, 4194303, 8388607, 4194303, 33554431, 67108863, 134217727, 268435455]
theorem gafferlaw05_SnapCodes.tab5 : rtab .any (opsOf Try.f8 5) = gafferlaw05_SnapCodes.T5 := by kernel_rfl
theorem gafferlaw05_SnapCodes.bits5 : waitsOk gafferlaw05_SnapCodes.T5.2 gafferlaw05_SnapCodes.B5 = true := by kernel_rfl
set_option maxHeartbeats 80000000 in
set_option maxRecDepth 100000 in
theorem gafferlaw05_SnapCodes.calls (k : Nat) (a0_0 : Int) (a0_1 : Int) (A0_2 : Option Addr) (c0_2 : Nat) (l0_2 : List Int) (a0_3 : ByteArray) (a1 : ByteArray) (r : Bool) (w : World) (hr0_2 : Kd.C (Kd.int .i64) w A0_2 l0_2.length l0_2) (hc0_2 : l0_2.length ≤ c0_2) (h : gafferlaw05_SnapCodes.f k a0_0 a0_1 l0_2 a0_3 a1 = some r) (hr : r = true) :
  Calls Try.prog 8 #[.agg #[.int .u64 a0_0, .int .u64 a0_1, .slice A0_2 l0_2.length c0_2, .string a0_3], .string a1] w fun e w' => e = .returned (.bool r) ∧ Below w.heap.size w w' := by
 have hu48 := Try.underlying48
 have HR0_2 := Aside0.mk hr0_2
 have HC0_2 := Aside0.mk hc0_2
 clear hr0_2 hc0_2
 have HB := Aside0.mk (Below.refl w.heap.size w)
 have H : ((snap_Encode.f k a0_0 a0_1 l0_2 a0_3).bind fun bt446 => ((gafferref05_Encode.f k a0_0 a0_1 l0_2 a0_3).bind fun bt448 => ((snap_Decode.f k a1).bind fun bt450 => ((gafferref05_Decode.f k a1).bind fun bt458 => ((gafferlaw05_lives.f k).bind fun t466 => (if t466 = true then (if bt446.1.toList = bt448.1.toList then (if bt446.2 = bt448.2 then ((gafferref05_Same.f k bt450.1 bt450.2.1 bt450.2.2.1 bt450.2.2.2.1 bt458.1 bt458.2.1 bt458.2.2.1 bt458.2.2.2.1).bind fun t467 => (if t467 = true then (if bt450.2.2.2.2 = bt458.2.2.2.2 then ((snap_Check.f k a0_0 a0_1 l0_2 a0_3).bind fun t468 => ((gafferref05_Check.f k a0_0 a0_1 l0_2 a0_3).bind fun t469 => (some (t468 == t469)))) else (some false)) else (some false))) else (some false)) else (some false)) else (some false))))))) = some r := h
 clear h
 obtain ⟨⟨t446, t447⟩, A30, H⟩ := Option.bind_eq_some_iff.mp H
 try dsimp only at H
 have A3 := Aside0.mk A30
 clear A30
 obtain ⟨⟨t448, t449⟩, A40, H⟩ := Option.bind_eq_some_iff.mp H
 try dsimp only at H
 have A4 := Aside0.mk A40
 clear A40
 obtain ⟨⟨t450, t451, t452, t455, t456⟩, A50, H⟩ := Option.bind_eq_some_iff.mp H
 try dsimp only at H
 have A5 := Aside0.mk A50
 clear A50
 obtain ⟨⟨t458, t459, t460, t463, t464⟩, A60, H⟩ := Option.bind_eq_some_iff.mp H
 try dsimp only at H
 have A6 := Aside0.mk A60
 clear A60
 obtain ⟨t466, A70, H⟩ := Option.bind_eq_some_iff.mp H
 try dsimp only at H
 have A7 := Aside0.mk A70
 clear A70
 by_cases c8 : t466 = true
 rotate_left
 ·replace c8 := Bool.eq_false_iff.mpr c8
  subst c8
  have H1 : (some false) = some r := by rw [if_neg (show ¬ (false = true) by decide)] at H; exact H
  clear H
  have H := H1
  clear H1
  exact absurd (H.trans (congrArg some hr)) (by simp)

 subst c8
 have H1 : (if t446.toList = t448.toList then (if t447 = t449 then ((gafferref05_Same.f k t450 t451 t452 t455 t458 t459 t460 t463).bind fun t467 => (if t467 = true then (if t456 = t464 then ((snap_Check.f k a0_0 a0_1 l0_2 a0_3).bind fun t468 => ((gafferref05_Check.f k a0_0 a0_1 l0_2 a0_3).bind fun t469 => (some (t468 == t469)))) else (some false)) else (some false))) else (some false)) else (some false)) = some r := by rw [if_pos rfl] at H; exact H
 clear H
 have H := H1
 clear H1
 by_cases c9 : t446.toList = t448.toList
 rotate_left
 ·rw [if_neg c9] at H
  have c9b0 : (t446.toList == t448.toList) = false := beq_eq_false_iff_ne.mpr c9
  have c9b1 : (t446.toList != t448.toList) = true := bne_iff_ne.mpr c9
  exact absurd (H.trans (congrArg some hr)) (by simp)
 rw [if_pos c9] at H
 have c9b0 : (t446.toList == t448.toList) = true := beq_iff_eq.mpr c9
 have c9b1 : (t446.toList != t448.toList) = false := bne_eq_false_iff_eq.mpr c9
 clear c9
 by_cases c10 : t447 = t449
 rotate_left
 ·rw [if_neg c10] at H
  have c10b0 : (t447 == t449) = false := beq_eq_false_iff_ne.mpr c10
  have c10b1 : (t447 != t449) = true := bne_iff_ne.mpr c10
  exact absurd (H.trans (congrArg some hr)) (by simp)
 rw [if_pos c10] at H
 have c10b0 : (t447 == t449) = true := beq_iff_eq.mpr c10
 have c10b1 : (t447 != t449) = false := bne_eq_false_iff_eq.mpr c10
 clear c10
 obtain ⟨t467, A110, H⟩ := Option.bind_eq_some_iff.mp H
 try dsimp only at H
 have A11 := Aside0.mk A110
 clear A110
 by_cases c12 : t467 = true
 rotate_left
 ·replace c12 := Bool.eq_false_iff.mpr c12
  subst c12
  have H1 : (some false) = some r := by rw [if_neg (show ¬ (false = true) by decide)] at H; exact H
  clear H
  have H := H1
  clear H1
  exact absurd (H.trans (congrArg some hr)) (by simp)
 subst c12
 have H1 : (if t456 = t464 then ((snap_Check.f k a0_0 a0_1 l0_2 a0_3).bind fun t468 => ((gafferref05_Check.f k a0_0 a0_1 l0_2 a0_3).bind fun t469 => (some (t468 == t469)))) else (some false)) = some r := by rw [if_pos rfl] at H; exact H
 clear H
 have H := H1
 clear H1
 by_cases c13 : t456 = t464
 rotate_left
 ·rw [if_neg c13] at H
  have c13b0 : (t456 == t464) = false := beq_eq_false_iff_ne.mpr c13
  have c13b1 : (t456 != t464) = true := bne_iff_ne.mpr c13
  exact absurd (H.trans (congrArg some hr)) (by simp)
 rw [if_pos c13] at H
 have c13b0 : (t456 == t464) = true := beq_iff_eq.mpr c13
 have c13b1 : (t456 != t464) = false := bne_eq_false_iff_eq.mpr c13
 clear c13
 obtain ⟨t468, A140, H⟩ := Option.bind_eq_some_iff.mp H
 try dsimp only at H
 have A14 := Aside0.mk A140
 clear A140
 obtain ⟨t469, A150, H⟩ := Option.bind_eq_some_iff.mp H
 try dsimp only at H
 have A15 := Aside0.mk A150
 clear A150
 obtain rfl := Option.some.inj H
 go_enter Try.func8, Try.ntmps8
 try go_wp2_with (first | ((with_reducible refine gate_dst (N := 2) rfl ?_); refine bx_ 2 #[.int .u64 a0_0, .int .u64 a0_1, .slice A0_2 l0_2.length c0_2, .string a0_3] 48 ?_; intro gb445 hg w16 hbox hb; have BK445 := Aside0.mk (hbox); have GE445 := Aside0.mk (bs_0 hg HB); replace HB := Aside0.mk (below_step (bl_ HB) hb); clear hb hbox hg; obtain ⟨hcz17_0, hcz17_1, hcz17_2, hcz17_3, hfz17_0, hfz17_1, hfz17_2, hfz17_3⟩ := c4_ BK445) | ((with_reducible refine gate_callee (f := 25) rfl ?_); refine goesL_ (some 15) rfl rfl Try.func25 (by kernel_rfl) rfl #[.agg #[.int .u64 a0_0, .int .u64 a0_1, .slice A0_2 l0_2.length c0_2, .string a0_3]] rfl (ar_) ?_; (with_reducible refine (snap_Encode.calls k a0_0 a0_1 _ _ l0_2 a0_3 t446 t447 _ ?side1 ?side2 A3.out).mono ?_); (case side1 => exact cl_ (Kd.C_below HR0_2.out HB.out)); (case side2 => exact HC0_2.out); rintro e w18 ⟨rfl, hb⟩; refine ⟨_, rfl, ?_⟩; replace BK445 := Aside0.mk (bb_ BK445 hb); replace HB := Aside0.mk (below_step (bl_1 HB GE445) hb); (try clear hb); obtain ⟨hcz19_0, hcz19_1, hcz19_2, hcz19_3, hfz19_0, hfz19_1, hfz19_2, hfz19_3⟩ := c4_ BK445) | ((with_reducible refine gate_callee (f := 26) rfl ?_); refine goesL_ (some 20) rfl rfl Try.func26 (by kernel_rfl) rfl #[.agg #[.int .u64 a0_0, .int .u64 a0_1, .slice A0_2 l0_2.length c0_2, .string a0_3]] rfl (ar_) ?_; (with_reducible refine (gafferref05_Encode.calls k a0_0 a0_1 _ _ l0_2 a0_3 t448 t449 _ ?side1 ?side2 A4.out).mono ?_); (case side1 => exact cl_ (Kd.C_below HR0_2.out HB.out)); (case side2 => exact HC0_2.out); rintro e w20 ⟨rfl, hb⟩; refine ⟨_, rfl, ?_⟩; replace BK445 := Aside0.mk (bb_ BK445 hb); replace HB := Aside0.mk (below_step (bl_1 HB GE445) hb); (try clear hb)) | ((with_reducible refine gate_callee (f := 27) rfl ?_); refine goesL_ (some 25) rfl rfl Try.func27 (by kernel_rfl) rfl #[.string a1] rfl (ar_) ?_; (with_reducible refine (snap_Decode.calls k a1 t450 t451 t452 t455 t456 _ A5.out).mono ?_); rintro e w21 ⟨v453, rfl, ho0, hb⟩; refine ⟨_, rfl, ?_⟩; have HO454 := Aside0.mk (Kd.R_lower ho0 (below_size (bl_1 HB GE445))); replace BK445 := Aside0.mk (bb_ BK445 hb); replace HB := Aside0.mk (below_step (bl_1 HB GE445) hb); (try clear hb); (try clear ho0)) | ((with_reducible refine gate_dst (N := 9) rfl ?_); refine bx_ 9 #[.int .u64 0, .int .u64 0, .slice none 0 0, .string (⟨#[]⟩ : ByteArray)] 48 ?_; intro gb457 hg w22 hbox hb; replace HO454 := Aside0.mk (Kd.R_below (by (with_reducible repeat (first | apply Kd.R_alloc | apply Kd.R_drewN | apply Kd.R_drew)); exact HO454.out) hb); have BK457 := Aside0.mk (hbox); have GE457 := Aside0.mk (bs_1 hg HB GE445); replace HB := Aside0.mk (below_step (bl_1 HB GE445) hb); have NB445_457 := Aside0.mk (nb_ hg BK445); have NB457_445 := Aside0.mk (nc_ hg BK445); replace BK445 := Aside0.mk (bb_ BK445 hb); clear hb hbox hg; have hnb23 := NB457_445.out; have hnc23 := NB445_457.out; obtain ⟨hcz24_0, hcz24_1, hcz24_2, hcz24_3, hfz24_0, hfz24_1, hfz24_2, hfz24_3⟩ := c4_ BK457; obtain ⟨Ao25, co25, eo25⟩ := Kd.R_slice HO454.out; subst eo25) | ((with_reducible refine gate_callee (f := 28) rfl ?_); refine goesL_ (some 30) rfl rfl Try.func28 (by kernel_rfl) rfl #[.string a1] rfl (ar_) ?_; (with_reducible refine (gafferref05_Decode.calls k a1 t458 t459 t460 t463 t464 _ A6.out).mono ?_); rintro e w26 ⟨v461, rfl, ho0, hb⟩; refine ⟨_, rfl, ?_⟩; have HO462 := Aside0.mk (Kd.R_lower (Kd.R_new' ho0 (Kd.R_lt (by (with_reducible repeat (first | apply Kd.R_alloc | apply Kd.R_drewN | apply Kd.R_drew)); exact (Kd.R_mono (Kd.R_far (p := ⟨gb457, 3, none⟩) (Kd.R_far (p := ⟨gb457, 2, none⟩) (Kd.R_far (p := ⟨gb457, 1, none⟩) (Kd.R_far (p := ⟨gb457, 0, none⟩) (Kd.R_types HO454.out BK457.out (by decide)) (fun _ hk => hk.2) (.int .u64 t450)) (fun _ hk => hk.2) (.int .u64 t451)) (fun _ hk => hk.2) (.slice Ao25 t452.length co25)) (fun _ hk => hk.2) (.string t455)) (fun _ h_ => h_.1))))) (below_size (bl_2 HB GE445 GE457))); replace HO454 := Aside0.mk (Kd.R_elder' (by (with_reducible repeat (first | apply Kd.R_alloc | apply Kd.R_drewN | apply Kd.R_drew)); exact (Kd.R_mono (Kd.R_far (p := ⟨gb457, 3, none⟩) (Kd.R_far (p := ⟨gb457, 2, none⟩) (Kd.R_far (p := ⟨gb457, 1, none⟩) (Kd.R_far (p := ⟨gb457, 0, none⟩) (Kd.R_types HO454.out BK457.out (by decide)) (fun _ hk => hk.2) (.int .u64 t450)) (fun _ hk => hk.2) (.int .u64 t451)) (fun _ hk => hk.2) (.slice Ao25 t452.length co25)) (fun _ hk => hk.2) (.string t455)) (fun _ h_ => h_.1))) (Kd.R_base ho0) hb); replace BK445 := Aside0.mk (blk_below (g := gb445) (o := .cells #[.int .u64 a0_0, .int .u64 a0_1, .slice A0_2 l0_2.length c0_2, .string a0_3] 48 (0, 0)) (bp_1 BK445 NB445_457) hb); replace BK457 := Aside0.mk (blk_below (g := gb457) (o := .cells #[.int .u64 t450, .int .u64 t451, .slice Ao25 t452.length co25, .string t455] 48 (0, 0)) (bp_0 BK457) hb); replace HB := Aside0.mk (below_step (bl_2 HB GE445 GE457) hb); (try clear hb); (try clear ho0)) | ((with_reducible refine gate_dst (N := 11) rfl ?_); refine bx_ 11 #[.int .u64 0, .int .u64 0, .slice none 0 0, .string (⟨#[]⟩ : ByteArray)] 48 ?_; intro gb465 hg w27 hbox hb; replace HO454 := Aside0.mk (Kd.R_below (by (with_reducible repeat (first | apply Kd.R_alloc | apply Kd.R_drewN | apply Kd.R_drew)); exact HO454.out) hb); replace HO462 := Aside0.mk (Kd.R_below (by (with_reducible repeat (first | apply Kd.R_alloc | apply Kd.R_drewN | apply Kd.R_drew)); exact HO462.out) hb); have BK465 := Aside0.mk (hbox); have GE465 := Aside0.mk (bs_2 hg HB GE445 GE457); replace HB := Aside0.mk (below_step (bl_2 HB GE445 GE457) hb); have NB445_465 := Aside0.mk (nb_ hg BK445); have NB465_445 := Aside0.mk (nc_ hg BK445); replace BK445 := Aside0.mk (bb_ BK445 hb); have NB457_465 := Aside0.mk (nb_ hg BK457); have NB465_457 := Aside0.mk (nc_ hg BK457); replace BK457 := Aside0.mk (bb_ BK457 hb); clear hb hbox hg; have hnb28 := NB465_445.out; have hnc28 := NB445_465.out; have hnb29 := NB465_457.out; have hnc29 := NB457_465.out; obtain ⟨hcz30_0, hcz30_1, hcz30_2, hcz30_3, hfz30_0, hfz30_1, hfz30_2, hfz30_3⟩ := c4_ BK465; obtain ⟨Ao31, co31, eo31⟩ := Kd.R_slice HO462.out; subst eo31))
 have n0_ : Aside0 (Kd.R (Kd.int .i64) 3 ((((w27.setCell ⟨gb465, 0, none⟩ (.int .u64 t458)).setCell ⟨gb465, 1, none⟩ (.int .u64 t459)).setCell ⟨gb465, 2, none⟩ (.slice Ao31 t460.length co31)).setCell ⟨gb465, 3, none⟩ (.string t463)) w.heap.size (fun k_ => some k_ ≠ (.slice Ao31 t460.length co31 : Value).ownBlock) (.slice Ao25 t452.length co25) t452) := ⟨by (with_reducible repeat (first | apply Kd.R_alloc | apply Kd.R_drewN | apply Kd.R_drew)); exact Kd.R_mono (Kd.R_far (p := ⟨gb465, 3, none⟩) (Kd.R_far (p := ⟨gb465, 2, none⟩) (Kd.R_far (p := ⟨gb465, 1, none⟩) (Kd.R_far (p := ⟨gb465, 0, none⟩) (Kd.R_types HO454.out BK465.out (by decide)) (fun _ hk => hk.2) (.int .u64 t458)) (fun _ hk => hk.2) (.int .u64 t459)) (fun _ hk => hk.2) (.slice Ao31 t460.length co31)) (fun _ hk => hk.2) (.string t463)) (fun _ hk => hk.1.2)⟩
 have n1_ : Aside0 (Kd.R (Kd.int .i64) 3 ((((w27.setCell ⟨gb465, 0, none⟩ (.int .u64 t458)).setCell ⟨gb465, 1, none⟩ (.int .u64 t459)).setCell ⟨gb465, 2, none⟩ (.slice Ao31 t460.length co31)).setCell ⟨gb465, 3, none⟩ (.string t463)) w.heap.size (fun k_ => some k_ ≠ (.slice Ao25 t452.length co25 : Value).ownBlock) (.slice Ao31 t460.length co31) t460) := ⟨by (with_reducible repeat (first | apply Kd.R_alloc | apply Kd.R_drewN | apply Kd.R_drew)); exact Kd.R_mono (Kd.R_far (p := ⟨gb465, 3, none⟩) (Kd.R_far (p := ⟨gb465, 2, none⟩) (Kd.R_far (p := ⟨gb465, 1, none⟩) (Kd.R_far (p := ⟨gb465, 0, none⟩) (Kd.R_types HO462.out BK465.out (by decide)) (fun _ hk => hk.2) (.int .u64 t458)) (fun _ hk => hk.2) (.int .u64 t459)) (fun _ hk => hk.2) (.slice Ao31 t460.length co31)) (fun _ hk => hk.2) (.string t463)) (fun _ hk => hk.1.2)⟩
 have n2_ : Aside0 (((((w27.setCell ⟨gb465, 0, none⟩ (.int .u64 t458)).setCell ⟨gb465, 1, none⟩ (.int .u64 t459)).setCell ⟨gb465, 2, none⟩ (.slice Ao31 t460.length co31)).setCell ⟨gb465, 3, none⟩ (.string t463)).heap[gb445]? = some (.cells #[.int .u64 a0_0, .int .u64 a0_1, .slice A0_2 l0_2.length c0_2, .string a0_3] 48 (0, 0))) := ⟨by (with_reducible repeat (first | refine blk_drewN ?_ _ | refine blk_drew ?_ | refine blk_alloc ?_ _)); refine blk_far ?_ NB445_465.out _; (with_reducible repeat (first | refine blk_drewN ?_ _ | refine blk_drew ?_ | refine blk_alloc ?_ _)); refine blk_far ?_ NB445_465.out _; (with_reducible repeat (first | refine blk_drewN ?_ _ | refine blk_drew ?_ | refine blk_alloc ?_ _)); refine blk_far ?_ NB445_465.out _; (with_reducible repeat (first | refine blk_drewN ?_ _ | refine blk_drew ?_ | refine blk_alloc ?_ _)); refine blk_far ?_ NB445_465.out _; (with_reducible repeat (first | refine blk_drewN ?_ _ | refine blk_drew ?_ | refine blk_alloc ?_ _)); exact BK445.out⟩
 have n3_ : Aside0 (((((w27.setCell ⟨gb465, 0, none⟩ (.int .u64 t458)).setCell ⟨gb465, 1, none⟩ (.int .u64 t459)).setCell ⟨gb465, 2, none⟩ (.slice Ao31 t460.length co31)).setCell ⟨gb465, 3, none⟩ (.string t463)).heap[gb457]? = some (.cells #[.int .u64 t450, .int .u64 t451, .slice Ao25 t452.length co25, .string t455] 48 (0, 0))) := ⟨by (with_reducible repeat (first | refine blk_drewN ?_ _ | refine blk_drew ?_ | refine blk_alloc ?_ _)); refine blk_far ?_ NB457_465.out _; (with_reducible repeat (first | refine blk_drewN ?_ _ | refine blk_drew ?_ | refine blk_alloc ?_ _)); refine blk_far ?_ NB457_465.out _; (with_reducible repeat (first | refine blk_drewN ?_ _ | refine blk_drew ?_ | refine blk_alloc ?_ _)); refine blk_far ?_ NB457_465.out _; (with_reducible repeat (first | refine blk_drewN ?_ _ | refine blk_drew ?_ | refine blk_alloc ?_ _)); refine blk_far ?_ NB457_465.out _; (with_reducible repeat (first | refine blk_drewN ?_ _ | refine blk_drew ?_ | refine blk_alloc ?_ _)); exact BK457.out⟩
 have n4_ : Aside0 (((((w27.setCell ⟨gb465, 0, none⟩ (.int .u64 t458)).setCell ⟨gb465, 1, none⟩ (.int .u64 t459)).setCell ⟨gb465, 2, none⟩ (.slice Ao31 t460.length co31)).setCell ⟨gb465, 3, none⟩ (.string t463)).heap[gb465]? = some (.cells #[.int .u64 t458, .int .u64 t459, .slice Ao31 t460.length co31, .string t463] 48 (0, 0))) := ⟨by (with_reducible repeat (first | refine blk_drewN ?_ _ | refine blk_drew ?_ | refine blk_alloc ?_ _)); refine blk_put (cs := #[.int .u64 t458, .int .u64 t459, .slice Ao31 t460.length co31, .string (⟨#[]⟩ : ByteArray)]) ?_ 3 _ rfl; (with_reducible repeat (first | refine blk_drewN ?_ _ | refine blk_drew ?_ | refine blk_alloc ?_ _)); refine blk_put (cs := #[.int .u64 t458, .int .u64 t459, .slice none 0 0, .string (⟨#[]⟩ : ByteArray)]) ?_ 2 _ rfl; (with_reducible repeat (first | refine blk_drewN ?_ _ | refine blk_drew ?_ | refine blk_alloc ?_ _)); refine blk_put (cs := #[.int .u64 t458, .int .u64 0, .slice none 0 0, .string (⟨#[]⟩ : ByteArray)]) ?_ 1 _ rfl; (with_reducible repeat (first | refine blk_drewN ?_ _ | refine blk_drew ?_ | refine blk_alloc ?_ _)); refine blk_put (cs := #[.int .u64 0, .int .u64 0, .slice none 0 0, .string (⟨#[]⟩ : ByteArray)]) ?_ 0 _ rfl; (with_reducible repeat (first | refine blk_drewN ?_ _ | refine blk_drew ?_ | refine blk_alloc ?_ _)); exact BK465.out⟩
 have n5_ : Aside0 (Below w.heap.size w ((((w27.setCell ⟨gb465, 0, none⟩ (.int .u64 t458)).setCell ⟨gb465, 1, none⟩ (.int .u64 t459)).setCell ⟨gb465, 2, none⟩ (.slice Ao31 t460.length co31)).setCell ⟨gb465, 3, none⟩ (.string t463))) := ⟨bl_3 HB GE445 GE457 GE465⟩
 (try clear HO454)
 (try clear HO462)
 (try clear BK445)
 (try clear BK457)
 (try clear BK465)
 (try clear HB)
 generalize ((((w27.setCell ⟨gb465, 0, none⟩ (.int .u64 t458)).setCell ⟨gb465, 1, none⟩ (.int .u64 t459)).setCell ⟨gb465, 2, none⟩ (.slice Ao31 t460.length co31)).setCell ⟨gb465, 3, none⟩ (.string t463)) = w32 at n0_ n1_ n2_ n3_ n4_ n5_ ⊢
 have HO454 := n0_
 have HO462 := n1_
 have BK445 := n2_
 have BK457 := n3_
 have BK465 := n4_
 have HB := n5_
 clear n0_ n1_ n2_ n3_ n4_ n5_
 have n0_ := Aside0.mk (Kd.R_drew HO454.out)
 have n1_ := Aside0.mk (Kd.R_drew HO462.out)
 have n2_ := Aside0.mk (blk_drew BK445.out)
 have n3_ := Aside0.mk (blk_drew BK457.out)
 have n4_ := Aside0.mk (blk_drew BK465.out)
 have n5_ := Aside0.mk (below_drew1 HB.out)
 clear HO454
 clear HO462
 clear BK445
 clear BK457
 clear BK465
 clear HB
 have HO454 := n0_
 have HO462 := n1_
 have BK445 := n2_
 have BK457 := n3_
 have BK465 := n4_
 have HB := n5_
 clear n0_ n1_ n2_ n3_ n4_ n5_
 refine start_ (n := 29) (S := fun w' => w'.cell? ⟨gb457, 0, none⟩ = some (.int .u64 t450) ∧ w'.cell? ⟨gb457, 1, none⟩ = some (.int .u64 t451) ∧ w'.cell? ⟨gb457, 2, none⟩ = some (.slice Ao25 t452.length co25) ∧ w'.cell? ⟨gb457, 3, none⟩ = some (.string t455) ∧ w'.cell? ⟨gb465, 0, none⟩ = some (.int .u64 t458) ∧ w'.cell? ⟨gb465, 1, none⟩ = some (.int .u64 t459) ∧ w'.cell? ⟨gb465, 2, none⟩ = some (.slice Ao31 t460.length co31) ∧ w'.cell? ⟨gb465, 3, none⟩ = some (.string t463) ∧ w'.cell? ⟨gb445, 0, none⟩ = some (.int .u64 a0_0) ∧ w'.cell? ⟨gb445, 1, none⟩ = some (.int .u64 a0_1) ∧ w'.cell? ⟨gb445, 2, none⟩ = some (.slice A0_2 l0_2.length c0_2) ∧ w'.cell? ⟨gb445, 3, none⟩ = some (.string a0_3)) (ds := []) #[false, false, false, false, false, false, false, false, false, false, false, false, false, false, false, false, false, false, false, false, false, false, false, false, false, false, false, false, false] (by kernel_rfl) rfl rfl ⟨(blk_cell BK457.out 0).trans rfl, (blk_cell BK457.out 1).trans rfl, (blk_cell BK457.out 2).trans rfl, (blk_cell BK457.out 3).trans rfl, (blk_cell BK465.out 0).trans rfl, (blk_cell BK465.out 1).trans rfl, (blk_cell BK465.out 2).trans rfl, (blk_cell BK465.out 3).trans rfl, (blk_cell BK445.out 0).trans rfl, (blk_cell BK445.out 1).trans rfl, (blk_cell BK445.out 2).trans rfl, (blk_cell BK445.out 3).trans rfl⟩ (fun hHeld => ?_); refine with_tabW gafferlaw05_SnapCodes.tab5 gafferlaw05_SnapCodes.bits5 (fun HT_ HW_ => ?_)
 generalize w32.drew = w33 at HO454 HO462 BK445 BK457 BK465 HB hHeld ⊢
 refine one_ (i := 0) (N := some 33) #[true, false, false, false, false, false, false, false, false, false, false, false, false, false, false, false, false, false, false, false, false, false, false, false, false, false, false, false, false] rfl rfl (one_of HT_.out (by kernel_rfl)) (by decide) (fun K hK => ?_)
 refine goes_ Try.func29 (by kernel_rfl) rfl #[] (by rfl) rfl rfl (ar_) ?_
 with_reducible refine (gafferlaw05_lives.calls k  true _ A7.out).mono ?_
 rintro e w34 ⟨rfl, hb⟩
 refine ⟨_, rfl, ?_⟩
 have n0_ := Aside0.mk (Kd.R_below (by (with_reducible repeat (first | apply Kd.R_alloc | apply Kd.R_drewN | apply Kd.R_drew)); exact HO454.out) hb)
 have n1_ := Aside0.mk (Kd.R_below (by (with_reducible repeat (first | apply Kd.R_alloc | apply Kd.R_drewN | apply Kd.R_drew)); exact HO462.out) hb)
 have n2_ := Aside0.mk (bb_ BK445 hb)
 have n3_ := Aside0.mk (bb_ BK457 hb)
 have n4_ := Aside0.mk (bb_ BK465 hb)
 have n5_ := Aside0.mk (below_step (bl_3 HB GE445 GE457 GE465) hb)
 clear HO454
 clear HO462
 clear BK445
 clear BK457
 clear BK465
 clear HB
 have HO454 := n0_
 have HO462 := n1_
 have BK445 := n2_
 have BK457 := n3_
 have BK465 := n4_
 have HB := n5_
 clear n0_ n1_ n2_ n3_ n4_ n5_
 (try clear hb)
 (try clear hb2)
 (try clear hk)
 (try clear hi)
 refine hK.out _ _ ⟨(blk_cell BK457.out 0).trans rfl, (blk_cell BK457.out 1).trans rfl, (blk_cell BK457.out 2).trans rfl, (blk_cell BK457.out 3).trans rfl, (blk_cell BK465.out 0).trans rfl, (blk_cell BK465.out 1).trans rfl, (blk_cell BK465.out 2).trans rfl, (blk_cell BK465.out 3).trans rfl, (blk_cell BK445.out 0).trans rfl, (blk_cell BK445.out 1).trans rfl, (blk_cell BK445.out 2).trans rfl, (blk_cell BK445.out 3).trans rfl⟩ (fun hHeld => ?_)
 clear hK K
 refine norm_ (a' := ?_) ?_ ?_
 rotate_left
 ·show Act.put _ (some 33) _ = _
  simp only [Act.put, List.setIfInBounds_toArray, List.set_cons_zero, List.set_cons_succ, i64_w, i32_w]
  rfl
 refine pure_ (i := 1) (N := some 34) (v := ?_) (a' := ?_) #[true, true, false, false, false, false, false, false, false, false, false, false, false, false, false, false, false, false, false, false, false, false, false, false, false, false, false, false, false] rfl rfl (any_of HT_.out (by kernel_rfl)) (fun _ _ _ h => h) (Or.inl ⟨by rfl, ?_⟩) ?_ ?_
 rotate_left
 ·intro w'
  go_simp
  with_reducible rfl
 rotate_left
 ·simp only [Act.put, List.setIfInBounds_toArray, List.set_cons_zero, List.set_cons_succ, i64_w, i32_w]
  rfl
 refine pure_ (i := 2) (N := some 35) (v := ?_) (a' := ?_) #[true, true, true, false, false, false, false, false, false, false, false, false, false, false, false, false, false, false, false, false, false, false, false, false, false, false, false, false, false] rfl rfl (any_of HT_.out (by kernel_rfl)) (fun _ _ _ h => h) (Or.inl ⟨by rfl, ?_⟩) ?_ ?_
 rotate_left
 ·intro w'
  go_simp
  with_reducible rfl
 rotate_left
 ·simp only [Act.put, List.setIfInBounds_toArray, List.set_cons_zero, List.set_cons_succ, i64_w, i32_w]
  rfl
 refine pure_ (i := 3) (N := some 36) (v := ?_) (a' := ?_) #[true, true, true, true, false, false, false, false, false, false, false, false, false, false, false, false, false, false, false, false, false, false, false, false, false, false, false, false, false] rfl rfl (any_of HT_.out (by kernel_rfl)) (fun _ _ _ h => h) (Or.inl ⟨by rfl, ?_⟩) ?_ ?_
 rotate_left
 ·intro w'
  go_simp
  with_reducible rfl
 rotate_left
 ·simp only [Act.put, List.setIfInBounds_toArray, List.set_cons_zero, List.set_cons_succ, i64_w, i32_w]
  rfl
 refine pure_ (i := 4) (N := some 37) (v := ?_) (a' := ?_) #[true, true, true, true, true, false, false, false, false, false, false, false, false, false, false, false, false, false, false, false, false, false, false, false, false, false, false, false, false] rfl rfl (any_of HT_.out (by kernel_rfl)) (fun _ _ _ h => h) (Or.inl ⟨by rfl, ?_⟩) ?_ ?_
 rotate_left
 ·intro w'
  go_simp
  with_reducible rfl
 rotate_left
 ·simp only [Act.put, List.setIfInBounds_toArray, List.set_cons_zero, List.set_cons_succ, i64_w, i32_w]
  rfl
 refine pure_ (i := 5) (N := some 38) (v := ?_) (a' := ?_) #[true, true, true, true, true, true, false, false, false, false, false, false, false, false, false, false, false, false, false, false, false, false, false, false, false, false, false, false, false] rfl rfl (any_of HT_.out (by kernel_rfl)) (fun _ _ _ h => h) (Or.inl ⟨by rfl, ?_⟩) ?_ ?_
 rotate_left
 ·intro w'
  go_simp
  with_reducible rfl
 rotate_left
 ·simp only [Act.put, List.setIfInBounds_toArray, List.set_cons_zero, List.set_cons_succ, i64_w, i32_w]
  rfl
 refine pure_ (i := 6) (N := some 39) (v := ?_) (a' := ?_) #[true, true, true, true, true, true, true, false, false, false, false, false, false, false, false, false, false, false, false, false, false, false, false, false, false, false, false, false, false] rfl rfl (any_of HT_.out (by kernel_rfl)) (fun _ _ _ h => h) (Or.inl ⟨by rfl, ?_⟩) ?_ ?_
 rotate_left
 ·intro w'
  go_simp
  with_reducible rfl
 rotate_left
 ·simp only [Act.put, List.setIfInBounds_toArray, List.set_cons_zero, List.set_cons_succ, i64_w, i32_w]
  rfl
 refine pure_ (i := 7) (N := some 40) (v := ?_) (a' := ?_) #[true, true, true, true, true, true, true, true, false, false, false, false, false, false, false, false, false, false, false, false, false, false, false, false, false, false, false, false, false] rfl rfl (any_of HT_.out (by kernel_rfl)) (fun _ _ _ h => h) (Or.inl ⟨by rfl, ?_⟩) ?_ ?_
 rotate_left
 ·intro w'
  go_simp
  with_reducible rfl
 rotate_left
 ·simp only [Act.put, List.setIfInBounds_toArray, List.set_cons_zero, List.set_cons_succ, i64_w, i32_w]
  rfl
 refine pure_ (i := 8) (N := some 41) (v := ?_) (a' := ?_) #[true, true, true, true, true, true, true, true, true, false, false, false, false, false, false, false, false, false, false, false, false, false, false, false, false, false, false, false, false] rfl rfl (any_of HT_.out (by kernel_rfl)) (fun _ _ _ h => h) (Or.inl ⟨by rfl, ?_⟩) ?_ ?_
 rotate_left
 ·intro w'
  go_simp
  with_reducible rfl
 rotate_left
 ·simp only [Act.put, List.setIfInBounds_toArray, List.set_cons_zero, List.set_cons_succ, i64_w, i32_w]
  rfl
 refine pure_ (i := 9) (N := some 42) (v := ?_) (a' := ?_) #[true, true, true, true, true, true, true, true, true, true, false, false, false, false, false, false, false, false, false, false, false, false, false, false, false, false, false, false, false] rfl rfl (any_of HT_.out (by kernel_rfl)) (fun _ _ _ h => h) (Or.inl ⟨by rfl, ?_⟩) ?_ ?_
 rotate_left
 ·intro w'
  go_simp
  with_reducible rfl
 rotate_left
 ·simp only [Act.put, List.setIfInBounds_toArray, List.set_cons_zero, List.set_cons_succ, i64_w, i32_w]
  rfl
 refine pure_ (i := 10) (N := some 43) (v := ?_) (a' := ?_) #[true, true, true, true, true, true, true, true, true, true, true, false, false, false, false, false, false, false, false, false, false, false, false, false, false, false, false, false, false] rfl rfl (any_of HT_.out (by kernel_rfl)) (fun _ _ _ h => h) (Or.inl ⟨by rfl, ?_⟩) ?_ ?_
 rotate_left
 ·intro w'
  go_simp
  with_reducible rfl
 rotate_left
 ·simp only [Act.put, List.setIfInBounds_toArray, List.set_cons_zero, List.set_cons_succ, i64_w, i32_w]
  rfl
 refine pure_ (i := 11) (N := some 44) (v := ?_) (a' := ?_) #[true, true, true, true, true, true, true, true, true, true, true, true, false, false, false, false, false, false, false, false, false, false, false, false, false, false, false, false, false] rfl rfl (any_of HT_.out (by kernel_rfl)) (fun _ _ _ h => h) (Or.inl ⟨by rfl, ?_⟩) ?_ ?_
 rotate_left
 ·intro w'
  go_simp
  with_reducible rfl
 rotate_left
 ·simp only [Act.put, List.setIfInBounds_toArray, List.set_cons_zero, List.set_cons_succ, i64_w, i32_w]
  rfl
 refine take_ (i := 12) (N := some 45) (v := ?_) (a' := ?_) #[true, true, true, true, true, true, true, true, true, true, true, true, true, false, false, false, false, false, false, false, false, false, false, false, false, false, false, false, false] rfl rfl (take_ofW HT_.out HW_.out (by kernel_rfl)) (fun _ _ _ h => h) (Or.inl ⟨by rfl, ?_⟩) hHeld ?_ ?_
 rotate_left
 ·rintro w' ⟨s0, s1, s2, s3, s4, s5, s6, s7, s8, s9, s10, s11⟩
  go_simp
  with_reducible rfl
 rotate_left
 ·simp only [Act.put, List.setIfInBounds_toArray, List.set_cons_zero, List.set_cons_succ, i64_w, i32_w]
  rfl
 refine take_ (i := 13) (N := some 46) (v := ?_) (a' := ?_) #[true, true, true, true, true, true, true, true, true, true, true, true, true, true, false, false, false, false, false, false, false, false, false, false, false, false, false, false, false] rfl rfl (take_ofW HT_.out HW_.out (by kernel_rfl)) (fun _ _ _ h => h) (Or.inl ⟨by rfl, ?_⟩) hHeld ?_ ?_
 rotate_left
 ·rintro w' ⟨s0, s1, s2, s3, s4, s5, s6, s7, s8, s9, s10, s11⟩
  go_simp
  with_reducible rfl
 rotate_left
 ·simp only [Act.put, List.setIfInBounds_toArray, List.set_cons_zero, List.set_cons_succ, i64_w, i32_w]
  rfl
 refine one_ (i := 14) (N := some 47) #[true, true, true, true, true, true, true, true, true, true, true, true, true, true, true, false, false, false, false, false, false, false, false, false, false, false, false, false, false] rfl rfl (one_of HT_.out (by kernel_rfl)) (by decide) (fun K hK => ?_)
 refine goes_ Try.func30 (by kernel_rfl) rfl #[.agg #[.int .u64 t450, .int .u64 t451, .slice Ao25 t452.length co25, .string t455], .agg #[.int .u64 t458, .int .u64 t459, .slice Ao31 t460.length co31, .string t463]] (by rfl) rfl rfl (ar_) ?_
 with_reducible refine (gafferref05_Same.calls k t450 t451 _ _ t452 t455 t458 t459 _ _ t460 t463 true _ ?side1 ?side2 ?side3 ?side4 A11.out).mono ?_
 (case side1 => exact cl_ ((Kd.R_reads' HO454.out).2.2))
 (case side2 => exact (Kd.R_reads' HO454.out).2.1)
 (case side3 => exact cl_ ((Kd.R_reads' HO462.out).2.2))
 (case side4 => exact (Kd.R_reads' HO462.out).2.1)
 rintro e w35 ⟨rfl, hb⟩
 refine ⟨_, rfl, ?_⟩
 have n0_ := Aside0.mk (Kd.R_below (by (with_reducible repeat (first | apply Kd.R_alloc | apply Kd.R_drewN | apply Kd.R_drew)); exact HO454.out) hb)
 have n1_ := Aside0.mk (Kd.R_below (by (with_reducible repeat (first | apply Kd.R_alloc | apply Kd.R_drewN | apply Kd.R_drew)); exact HO462.out) hb)
 have n2_ := Aside0.mk (bb_ BK445 hb)
 have n3_ := Aside0.mk (bb_ BK457 hb)
 have n4_ := Aside0.mk (bb_ BK465 hb)
 have n5_ := Aside0.mk (below_step (bl_3 HB GE445 GE457 GE465) hb)
 clear HO454
 clear HO462
 clear BK445
 clear BK457
 clear BK465
 clear HB
 have HO454 := n0_
 have HO462 := n1_
 have BK445 := n2_
 have BK457 := n3_
 have BK465 := n4_
 have HB := n5_
 clear n0_ n1_ n2_ n3_ n4_ n5_
 (try clear hb)
 (try clear hb2)
 (try clear hk)
 (try clear hi)
 refine hK.out _ _ ⟨(blk_cell BK457.out 0).trans rfl, (blk_cell BK457.out 1).trans rfl, (blk_cell BK457.out 2).trans rfl, (blk_cell BK457.out 3).trans rfl, (blk_cell BK465.out 0).trans rfl, (blk_cell BK465.out 1).trans rfl, (blk_cell BK465.out 2).trans rfl, (blk_cell BK465.out 3).trans rfl, (blk_cell BK445.out 0).trans rfl, (blk_cell BK445.out 1).trans rfl, (blk_cell BK445.out 2).trans rfl, (blk_cell BK445.out 3).trans rfl⟩ (fun hHeld => ?_)
 clear hK K
 refine norm_ (a' := ?_) ?_ ?_
 rotate_left
 ·show Act.put _ (some 47) _ = _
  simp only [Act.put, List.setIfInBounds_toArray, List.set_cons_zero, List.set_cons_succ, i64_w, i32_w]
  rfl
 refine pure_ (i := 15) (N := some 48) (v := ?_) (a' := ?_) #[true, true, true, true, true, true, true, true, true, true, true, true, true, true, true, true, false, false, false, false, false, false, false, false, false, false, false, false, false] rfl rfl (any_of HT_.out (by kernel_rfl)) (fun _ _ _ h => h) (Or.inl ⟨by rfl, ?_⟩) ?_ ?_
 rotate_left
 ·intro w'
  go_simp
  with_reducible rfl
 rotate_left
 ·simp only [Act.put, List.setIfInBounds_toArray, List.set_cons_zero, List.set_cons_succ, i64_w, i32_w]
  rfl
 refine pure_ (i := 16) (N := some 49) (v := ?_) (a' := ?_) #[true, true, true, true, true, true, true, true, true, true, true, true, true, true, true, true, true, false, false, false, false, false, false, false, false, false, false, false, false] rfl rfl (any_of HT_.out (by kernel_rfl)) (fun _ _ _ h => h) (Or.inl ⟨by rfl, ?_⟩) ?_ ?_
 rotate_left
 ·intro w'
  go_simp
  with_reducible rfl
 rotate_left
 ·simp only [Act.put, List.setIfInBounds_toArray, List.set_cons_zero, List.set_cons_succ, i64_w, i32_w]
  rfl
 refine pure_ (i := 17) (N := some 50) (v := ?_) (a' := ?_) #[true, true, true, true, true, true, true, true, true, true, true, true, true, true, true, true, true, true, false, false, false, false, false, false, false, false, false, false, false] rfl rfl (any_of HT_.out (by kernel_rfl)) (fun _ _ _ h => h) (Or.inl ⟨by rfl, ?_⟩) ?_ ?_
 rotate_left
 ·intro w'
  go_simp
  with_reducible rfl
 rotate_left
 ·simp only [Act.put, List.setIfInBounds_toArray, List.set_cons_zero, List.set_cons_succ, i64_w, i32_w]
  rfl
 refine pure_ (i := 18) (N := some 51) (v := ?_) (a' := ?_) #[true, true, true, true, true, true, true, true, true, true, true, true, true, true, true, true, true, true, true, false, false, false, false, false, false, false, false, false, false] rfl rfl (any_of HT_.out (by kernel_rfl)) (fun _ _ _ h => h) (Or.inl ⟨by rfl, ?_⟩) ?_ ?_
 rotate_left
 ·intro w'
  go_simp
  with_reducible rfl
 rotate_left
 ·simp only [Act.put, List.setIfInBounds_toArray, List.set_cons_zero, List.set_cons_succ, i64_w, i32_w]
  rfl
 refine pure_ (i := 19) (N := some 52) (v := ?_) (a' := ?_) #[true, true, true, true, true, true, true, true, true, true, true, true, true, true, true, true, true, true, true, true, false, false, false, false, false, false, false, false, false] rfl rfl (any_of HT_.out (by kernel_rfl)) (fun _ _ _ h => h) (Or.inl ⟨by rfl, ?_⟩) ?_ ?_
 rotate_left
 ·intro w'
  go_simp
  with_reducible rfl
 rotate_left
 ·simp only [Act.put, List.setIfInBounds_toArray, List.set_cons_zero, List.set_cons_succ, i64_w, i32_w]
  rfl
 refine pure_ (i := 20) (N := some 53) (v := ?_) (a' := ?_) #[true, true, true, true, true, true, true, true, true, true, true, true, true, true, true, true, true, true, true, true, true, false, false, false, false, false, false, false, false] rfl rfl (any_of HT_.out (by kernel_rfl)) (fun _ _ _ h => h) (Or.inl ⟨by rfl, ?_⟩) ?_ ?_
 rotate_left
 ·intro w'
  go_simp
  with_reducible rfl
 rotate_left
 ·simp only [Act.put, List.setIfInBounds_toArray, List.set_cons_zero, List.set_cons_succ, i64_w, i32_w]
  rfl
 refine pure_ (i := 21) (N := some 54) (v := ?_) (a' := ?_) #[true, true, true, true, true, true, true, true, true, true, true, true, true, true, true, true, true, true, true, true, true, true, false, false, false, false, false, false, false] rfl rfl (any_of HT_.out (by kernel_rfl)) (fun _ _ _ h => h) (Or.inl ⟨by rfl, ?_⟩) ?_ ?_
 rotate_left
 ·intro w'
  go_simp
  with_reducible rfl
 rotate_left
 ·simp only [Act.put, List.setIfInBounds_toArray, List.set_cons_zero, List.set_cons_succ, i64_w, i32_w]
  rfl
 refine take_ (i := 22) (N := some 55) (v := ?_) (a' := ?_) #[true, true, true, true, true, true, true, true, true, true, true, true, true, true, true, true, true, true, true, true, true, true, true, false, false, false, false, false, false] rfl rfl (take_ofW HT_.out HW_.out (by kernel_rfl)) (fun _ _ _ h => h) (Or.inl ⟨by rfl, ?_⟩) hHeld ?_ ?_
 rotate_left
 ·rintro w' ⟨s0, s1, s2, s3, s4, s5, s6, s7, s8, s9, s10, s11⟩
  go_simp
  with_reducible rfl
 rotate_left
 ·simp only [Act.put, List.setIfInBounds_toArray, List.set_cons_zero, List.set_cons_succ, i64_w, i32_w]
  rfl
 refine take_ (i := 24) (N := some 57) (v := ?_) (a' := ?_) #[true, true, true, true, true, true, true, true, true, true, true, true, true, true, true, true, true, true, true, true, true, true, true, false, true, false, false, false, false] rfl rfl (take_ofW HT_.out HW_.out (by kernel_rfl)) (fun _ _ _ h => h) (Or.inl ⟨by rfl, ?_⟩) hHeld ?_ ?_
 rotate_left
 ·rintro w' ⟨s0, s1, s2, s3, s4, s5, s6, s7, s8, s9, s10, s11⟩
  go_simp
  with_reducible rfl
 rotate_left
 ·simp only [Act.put, List.setIfInBounds_toArray, List.set_cons_zero, List.set_cons_succ, i64_w, i32_w]
  rfl
 refine one_ (i := 23) (N := some 56) #[true, true, true, true, true, true, true, true, true, true, true, true, true, true, true, true, true, true, true, true, true, true, true, true, true, false, false, false, false] rfl rfl (one_of HT_.out (by kernel_rfl)) (by decide) (fun K hK => ?_)
 refine goes_ Try.func31 (by kernel_rfl) rfl #[.agg #[.int .u64 a0_0, .int .u64 a0_1, .slice A0_2 l0_2.length c0_2, .string a0_3]] (by rfl) rfl rfl (ar_) ?_
 with_reducible refine (snap_Check.calls k a0_0 a0_1 _ _ l0_2 a0_3 t468 _ ?side1 ?side2 A14.out).mono ?_
 (case side1 => exact cl_ (Kd.C_below HR0_2.out HB.out))
 (case side2 => exact HC0_2.out)
 rintro e w36 ⟨rfl, hb⟩
 refine ⟨_, rfl, ?_⟩
 have n0_ := Aside0.mk (Kd.R_below (by (with_reducible repeat (first | apply Kd.R_alloc | apply Kd.R_drewN | apply Kd.R_drew)); exact HO454.out) hb)
 have n1_ := Aside0.mk (Kd.R_below (by (with_reducible repeat (first | apply Kd.R_alloc | apply Kd.R_drewN | apply Kd.R_drew)); exact HO462.out) hb)
 have n2_ := Aside0.mk (bb_ BK445 hb)
 have n3_ := Aside0.mk (bb_ BK457 hb)
 have n4_ := Aside0.mk (bb_ BK465 hb)
 have n5_ := Aside0.mk (below_step (bl_3 HB GE445 GE457 GE465) hb)
 clear HO454
 clear HO462
 clear BK445
 clear BK457
 clear BK465
 clear HB
 have HO454 := n0_
 have HO462 := n1_
 have BK445 := n2_
 have BK457 := n3_
 have BK465 := n4_
 have HB := n5_
 clear n0_ n1_ n2_ n3_ n4_ n5_
 (try clear hb)
 (try clear hb2)
 (try clear hk)
 (try clear hi)
 refine hK.out _ _ ⟨(blk_cell BK457.out 0).trans rfl, (blk_cell BK457.out 1).trans rfl, (blk_cell BK457.out 2).trans rfl, (blk_cell BK457.out 3).trans rfl, (blk_cell BK465.out 0).trans rfl, (blk_cell BK465.out 1).trans rfl, (blk_cell BK465.out 2).trans rfl, (blk_cell BK465.out 3).trans rfl, (blk_cell BK445.out 0).trans rfl, (blk_cell BK445.out 1).trans rfl, (blk_cell BK445.out 2).trans rfl, (blk_cell BK445.out 3).trans rfl⟩ (fun hHeld => ?_)
 clear hK K
 refine norm_ (a' := ?_) ?_ ?_
 rotate_left
 ·show Act.put _ (some 56) _ = _
  simp only [Act.put, List.setIfInBounds_toArray, List.set_cons_zero, List.set_cons_succ, i64_w, i32_w]
  rfl
 refine one_ (i := 25) (N := some 58) #[true, true, true, true, true, true, true, true, true, true, true, true, true, true, true, true, true, true, true, true, true, true, true, true, true, true, false, false, false] rfl rfl (one_of HT_.out (by kernel_rfl)) (by decide) (fun K hK => ?_)
 refine goes_ Try.func32 (by kernel_rfl) rfl #[.agg #[.int .u64 a0_0, .int .u64 a0_1, .slice A0_2 l0_2.length c0_2, .string a0_3]] (by rfl) rfl rfl (ar_) ?_
 with_reducible refine (gafferref05_Check.calls k a0_0 a0_1 _ _ l0_2 a0_3 t469 _ ?side1 ?side2 A15.out).mono ?_
 (case side1 => exact cl_ (Kd.C_below HR0_2.out HB.out))
 (case side2 => exact HC0_2.out)
 rintro e w37 ⟨rfl, hb⟩
 refine ⟨_, rfl, ?_⟩
 have n0_ := Aside0.mk (Kd.R_below (by (with_reducible repeat (first | apply Kd.R_alloc | apply Kd.R_drewN | apply Kd.R_drew)); exact HO454.out) hb)
 have n1_ := Aside0.mk (Kd.R_below (by (with_reducible repeat (first | apply Kd.R_alloc | apply Kd.R_drewN | apply Kd.R_drew)); exact HO462.out) hb)
 have n2_ := Aside0.mk (bb_ BK445 hb)
 have n3_ := Aside0.mk (bb_ BK457 hb)
 have n4_ := Aside0.mk (bb_ BK465 hb)
 have n5_ := Aside0.mk (below_step (bl_3 HB GE445 GE457 GE465) hb)
 clear HO454
 clear HO462
 clear BK445
 clear BK457
 clear BK465
 clear HB
 have HO454 := n0_
 have HO462 := n1_
 have BK445 := n2_
 have BK457 := n3_
 have BK465 := n4_
 have HB := n5_
 clear n0_ n1_ n2_ n3_ n4_ n5_
 (try clear hb)
 (try clear hb2)
 (try clear hk)
 (try clear hi)
 refine hK.out _ _ ⟨(blk_cell BK457.out 0).trans rfl, (blk_cell BK457.out 1).trans rfl, (blk_cell BK457.out 2).trans rfl, (blk_cell BK457.out 3).trans rfl, (blk_cell BK465.out 0).trans rfl, (blk_cell BK465.out 1).trans rfl, (blk_cell BK465.out 2).trans rfl, (blk_cell BK465.out 3).trans rfl, (blk_cell BK445.out 0).trans rfl, (blk_cell BK445.out 1).trans rfl, (blk_cell BK445.out 2).trans rfl, (blk_cell BK445.out 3).trans rfl⟩ (fun hHeld => ?_)
 clear hK K
 refine norm_ (a' := ?_) ?_ ?_
 rotate_left
 ·show Act.put _ (some 58) _ = _
  simp only [Act.put, List.setIfInBounds_toArray, List.set_cons_zero, List.set_cons_succ, i64_w, i32_w]
  rfl
 refine pure_ (i := 26) (N := some 59) (v := ?_) (a' := ?_) #[true, true, true, true, true, true, true, true, true, true, true, true, true, true, true, true, true, true, true, true, true, true, true, true, true, true, true, false, false] rfl rfl (any_of HT_.out (by kernel_rfl)) (fun _ _ _ h => h) (Or.inl ⟨by rfl, ?_⟩) ?_ ?_
 rotate_left
 ·intro w'
  go_simp
  with_reducible rfl
 rotate_left
 ·simp only [Act.put, List.setIfInBounds_toArray, List.set_cons_zero, List.set_cons_succ, i64_w, i32_w]
  rfl
 refine pure_ (i := 27) (N := some 60) (v := ?_) (a' := ?_) #[true, true, true, true, true, true, true, true, true, true, true, true, true, true, true, true, true, true, true, true, true, true, true, true, true, true, true, true, false] rfl rfl (any_of HT_.out (by kernel_rfl)) (fun _ _ _ h => h) (Or.inl ⟨by rfl, ?_⟩) ?_ ?_
 rotate_left
 ·intro w'
  go_simp
  with_reducible rfl
 rotate_left
 ·simp only [Act.put, List.setIfInBounds_toArray, List.set_cons_zero, List.set_cons_succ, i64_w, i32_w]
  rfl
 refine pure_ (i := 28) (N := some 4) (v := ?_) (a' := ?_) #[true, true, true, true, true, true, true, true, true, true, true, true, true, true, true, true, true, true, true, true, true, true, true, true, true, true, true, true, true] rfl rfl (any_of HT_.out (by kernel_rfl)) (fun _ _ _ h => h) (Or.inl ⟨by rfl, ?_⟩) ?_ ?_
 rotate_left
 ·intro w'
  go_simp
  with_reducible rfl
 rotate_left
 ·simp only [Act.put, List.setIfInBounds_toArray, List.set_cons_zero, List.set_cons_succ, i64_w, i32_w]
  rfl
 refine done_ (done_of HT_.out (by kernel_rfl)) ?_
 try go_wp2
 go_ret
 exact ⟨by first | rfl | (simp; done) | (simp [*]; done), bl_3 HB GE445 GE457 GE465⟩
/-- THE ONE PURE STATEMENT of gafferlaw05_SnapCodes: yours. -/
def gafferlaw05_SnapCodes.Pure : Prop := ∀ (x0 : S48) (x1 : ByteArray), ok48 x0 → okStr x1 → ∃ k, gafferlaw05_SnapCodes.f k x0.f0 x0.f1 x0.f2 x0.f3 x1 = some true

/-! ### gafferlaw05_SnapBack: function 10 -/
def gafferlaw05_SnapBack.j0 : Nat → ByteArray → Option (Bool)
 | 0, _ => none
 | k + 1, x1 => (snap_Decode.f k x1).bind fun bt499 => (if bt499.2.2.2.2 = 0 then ((snap_Encode.f k bt499.1 bt499.2.1 bt499.2.2.1 bt499.2.2.2.1).bind fun bt507 => (if bt507.2 = 0 then (some (bt507.1.toList == x1.toList)) else (some false))) else (if bt499.2.2.2.2 = 4 then ((gafferref05_Same.f k bt499.1 bt499.2.1 bt499.2.2.1 bt499.2.2.2.1 0 0 ([] : List Int) (⟨#[]⟩ : ByteArray)).bind fun t509 => (some t509)) else (some false)))
def gafferlaw05_SnapBack.f (k : Nat) (a0_0 : Int) (a0_1 : Int) (l0_2 : List Int) (a0_3 : ByteArray) (a1 : ByteArray) : Option (Bool) := (gafferlaw05_lives.f k).bind fun t471 => (if t471 = true then ((snap_Encode.f k a0_0 a0_1 l0_2 a0_3).bind fun bt472 => (if bt472.2 = 0 then ((snap_Decode.f k bt472.1).bind fun bt474 => (if bt472.1.size + 1 ≤ 9223372036854775807 then ((snap_Decode.f k (bt472.1 ++ (⟨#[0]⟩ : ByteArray))).bind fun bt482 => (if 0 ≤ (wrap64 ((bt472.1.size : Int) - 1)) then (if (wrap64 ((bt472.1.size : Int) - 1)) ≤ (bt472.1.size : Int) then ((snap_Decode.f k (bt472.1.extract 0 ((wrap64 ((bt472.1.size : Int) - 1)) : Int).toNat)).bind fun bt490 => (if bt474.2.2.2.2 = 0 then ((gafferref05_Same.f k a0_0 a0_1 l0_2 a0_3 bt474.1 bt474.2.1 bt474.2.2.1 bt474.2.2.2.1).bind fun t498 => (if t498 = true then (if bt482.2.2.2.2 = 4 then (if bt490.2.2.2.2 = 4 then (gafferlaw05_SnapBack.j0 k a1) else (some false)) else (some false)) else (some false))) else (some false))) else (none)) else (none))) else (none))) else (gafferlaw05_SnapBack.j0 k a1))) else (some false))
theorem gafferlaw05_SnapBack.mono_l : ∀ k, (∀ y0, LeO (gafferlaw05_SnapBack.j0 k y0) (gafferlaw05_SnapBack.j0 (k + 1) y0))
 | 0 => fun _ r h => by simp [gafferlaw05_SnapBack.j0] at h
 | k + 1 => by
  have ih0 := gafferlaw05_SnapBack.mono_l k
  ·intro y0
   unfold gafferlaw05_SnapBack.j0
   repeat' first | (with_reducible first | exact ih0 _ | exact gafferlaw05_lives.mono _ | exact gafferref05_Same.mono _ _ _ _ _ _ _ _ _ | exact snap_Decode.mono _ _ | exact snap_Encode.mono _ _ _ _ _ | exact LeO.refl _ | exact LeO.none _ | refine LeO.ite ?_ ?_ | refine LeO.bind ?_ (fun _ => ?_)) | exact ih0 _ | exact gafferlaw05_lives.mono _ | exact gafferref05_Same.mono _ _ _ _ _ _ _ _ _ | exact snap_Decode.mono _ _ | exact snap_Encode.mono _ _ _ _ _ | exact LeO.none _ | refine LeO.ite ?_ ?_ | refine LeO.bind ?_ (fun _ => ?_)
theorem gafferlaw05_SnapBack.mono : ∀ a0 a1 a2 a3 a4 k, LeO (gafferlaw05_SnapBack.f k a0 a1 a2 a3 a4) (gafferlaw05_SnapBack.f (k + 1) a0 a1 a2 a3 a4) := by
 intro a0 a1 a2 a3 a4 k
 have ih0 := gafferlaw05_SnapBack.mono_l k
 unfold gafferlaw05_SnapBack.f
 repeat' first | (with_reducible first | exact ih0 _ | exact gafferlaw05_lives.mono _ | exact gafferref05_Same.mono _ _ _ _ _ _ _ _ _ | exact snap_Decode.mono _ _ | exact snap_Encode.mono _ _ _ _ _ | exact LeO.refl _ | exact LeO.none _ | refine LeO.ite ?_ ?_ | refine LeO.bind ?_ (fun _ => ?_)) | exact ih0 _ | exact gafferlaw05_lives.mono _ | exact gafferref05_Same.mono _ _ _ _ _ _ _ _ _ | exact snap_Decode.mono _ _ | exact snap_Encode.mono _ _ _ _ _ | exact LeO.none _ | refine LeO.ite ?_ ?_ | refine LeO.bind ?_ (fun _ => ?_)
set_option maxHeartbeats 80000000 in
set_option maxRecDepth 100000 in
theorem gafferlaw05_SnapBack.calls (k : Nat) (a0_0 : Int) (a0_1 : Int) (A0_2 : Option Addr) (c0_2 : Nat) (l0_2 : List Int) (a0_3 : ByteArray) (a1 : ByteArray) (r : Bool) (w : World) (hr0_2 : Kd.C (Kd.int .i64) w A0_2 l0_2.length l0_2) (hc0_2 : l0_2.length ≤ c0_2) (h : gafferlaw05_SnapBack.f k a0_0 a0_1 l0_2 a0_3 a1 = some r) (hr : r = true) :
  Calls Try.prog 10 #[.agg #[.int .u64 a0_0, .int .u64 a0_1, .slice A0_2 l0_2.length c0_2, .string a0_3], .string a1] w fun e w' => e = .returned (.bool r) ∧ Below w.heap.size w w' := by
 have hu48 := Try.underlying48
 have HR0_2 := Aside0.mk hr0_2
 have HC0_2 := Aside0.mk hc0_2
 clear hr0_2 hc0_2
 have HB := Aside0.mk (Below.refl w.heap.size w)
 have H : ((gafferlaw05_lives.f k).bind fun t471 => (if t471 = true then ((snap_Encode.f k a0_0 a0_1 l0_2 a0_3).bind fun bt472 => (if bt472.2 = 0 then ((snap_Decode.f k bt472.1).bind fun bt474 => (if bt472.1.size + 1 ≤ 9223372036854775807 then ((snap_Decode.f k (bt472.1 ++ (⟨#[0]⟩ : ByteArray))).bind fun bt482 => (if 0 ≤ (wrap64 ((bt472.1.size : Int) - 1)) then (if (wrap64 ((bt472.1.size : Int) - 1)) ≤ (bt472.1.size : Int) then ((snap_Decode.f k (bt472.1.extract 0 ((wrap64 ((bt472.1.size : Int) - 1)) : Int).toNat)).bind fun bt490 => (if bt474.2.2.2.2 = 0 then ((gafferref05_Same.f k a0_0 a0_1 l0_2 a0_3 bt474.1 bt474.2.1 bt474.2.2.1 bt474.2.2.2.1).bind fun t498 => (if t498 = true then (if bt482.2.2.2.2 = 4 then (if bt490.2.2.2.2 = 4 then (gafferlaw05_SnapBack.j0 k a1) else (some false)) else (some false)) else (some false))) else (some false))) else (none)) else (none))) else (none))) else (gafferlaw05_SnapBack.j0 k a1))) else (some false))) = some r := h
 clear h
 obtain ⟨t471, A30, H⟩ := Option.bind_eq_some_iff.mp H
 try dsimp only at H
 have A3 := Aside0.mk A30
 clear A30
 by_cases c4 : t471 = true
 rotate_left
 ·replace c4 := Bool.eq_false_iff.mpr c4
  subst c4
  have H1 : (some false) = some r := by rw [if_neg (show ¬ (false = true) by decide)] at H; exact H
  clear H
  have H := H1
  clear H1
  exact absurd (H.trans (congrArg some hr)) (by simp)

 subst c4
 have H1 : ((snap_Encode.f k a0_0 a0_1 l0_2 a0_3).bind fun bt472 => (if bt472.2 = 0 then ((snap_Decode.f k bt472.1).bind fun bt474 => (if bt472.1.size + 1 ≤ 9223372036854775807 then ((snap_Decode.f k (bt472.1 ++ (⟨#[0]⟩ : ByteArray))).bind fun bt482 => (if 0 ≤ (wrap64 ((bt472.1.size : Int) - 1)) then (if (wrap64 ((bt472.1.size : Int) - 1)) ≤ (bt472.1.size : Int) then ((snap_Decode.f k (bt472.1.extract 0 ((wrap64 ((bt472.1.size : Int) - 1)) : Int).toNat)).bind fun bt490 => (if bt474.2.2.2.2 = 0 then ((gafferref05_Same.f k a0_0 a0_1 l0_2 a0_3 bt474.1 bt474.2.1 bt474.2.2.1 bt474.2.2.2.1).bind fun t498 => (if t498 = true then (if bt482.2.2.2.2 = 4 then (if bt490.2.2.2.2 = 4 then (gafferlaw05_SnapBack.j0 k a1) else (some false)) else (some false)) else (some false))) else (some false))) else (none)) else (none))) else (none))) else (gafferlaw05_SnapBack.j0 k a1))) = some r := by rw [if_pos rfl] at H; exact H
 clear H
 have H := H1
 clear H1
 obtain ⟨⟨t472, t473⟩, A50, H⟩ := Option.bind_eq_some_iff.mp H
 try dsimp only at H
 have A5 := Aside0.mk A50
 clear A50
 have HC6 := Aside0.mk H
 clear H
 go_enter Try.func10, Try.ntmps10
 go_upto_if 24 with (first | ((with_reducible refine gate_dst (N := 2) rfl ?_); refine bx_ 2 #[.int .u64 a0_0, .int .u64 a0_1, .slice A0_2 l0_2.length c0_2, .string a0_3] 48 ?_; intro gb470 hg w7 hbox hb; have BK470 := Aside0.mk (hbox); have GE470 := Aside0.mk (bs_0 hg HB); replace HB := Aside0.mk (below_step (bl_ HB) hb); clear hb hbox hg) | ((with_reducible refine gate_callee (f := 29) rfl ?_); refine goesL_ (some 16) rfl rfl Try.func29 (by kernel_rfl) rfl #[] rfl (ar_) ?_; (with_reducible refine (gafferlaw05_lives.calls k  true _ A3.out).mono ?_); rintro e w8 ⟨rfl, hb⟩; refine ⟨_, rfl, ?_⟩; replace BK470 := Aside0.mk (bb_ BK470 hb); replace HB := Aside0.mk (below_step (bl_1 HB GE470) hb); (try clear hb); obtain ⟨hcz9_0, hcz9_1, hcz9_2, hcz9_3, hfz9_0, hfz9_1, hfz9_2, hfz9_3⟩ := c4_ BK470) | ((with_reducible refine gate_callee (f := 25) rfl ?_); refine goesL_ (some 20) rfl rfl Try.func25 (by kernel_rfl) rfl #[.agg #[.int .u64 a0_0, .int .u64 a0_1, .slice A0_2 l0_2.length c0_2, .string a0_3]] rfl (ar_) ?_; (with_reducible refine (snap_Encode.calls k a0_0 a0_1 _ _ l0_2 a0_3 t472 t473 _ ?side1 ?side2 A5.out).mono ?_); (case side1 => exact cl_ (Kd.C_below HR0_2.out HB.out)); (case side2 => exact HC0_2.out); rintro e w10 ⟨rfl, hb⟩; refine ⟨_, rfl, ?_⟩; replace BK470 := Aside0.mk (bb_ BK470 hb); replace HB := Aside0.mk (below_step (bl_1 HB GE470) hb); (try clear hb)))
 (try simp only [Act.put, List.setIfInBounds_toArray, List.set_cons_zero, List.set_cons_succ])
 go_cut [] (fun wc => ∃ (kq : Nat), Aside0 (gafferlaw05_SnapBack.j0 kq a1 = some r) ∧ Aside0 (kq ≤ k) ∧ Aside0 (wc.heap[gb470]? = some (.cells #[.int .u64 a0_0, .int .u64 a0_1, (.slice A0_2 l0_2.length c0_2), .string a0_3] 48 (0, 0))) ∧ Aside0 (Below w.heap.size w wc))
 case first =>
  have H := HC6.out
  clear HC6
  by_cases c11 : t473 = 0
  rotate_left
  ·rw [if_neg c11] at H
   have c11b0 : (t473 == 0) = false := beq_eq_false_iff_ne.mpr c11
   have c11b1 : (t473 != 0) = true := bne_iff_ne.mpr c11
   (first | rw [c11b0] | (simp only [i64_w, i32_w]; rw [c11b0]) | skip)
   have H' := Aside0.mk H
   clear H
   go_wp2
   go_meet
   case rel => exact ⟨_, H', ⟨by first | omega | exact Nat.le_refl _⟩, ⟨bk_ BK470⟩, ⟨bl_1 HB GE470⟩⟩
  rw [if_pos c11] at H
  have c11b0 : (t473 == 0) = true := beq_iff_eq.mpr c11
  have c11b1 : (t473 != 0) = false := bne_eq_false_iff_eq.mpr c11
  clear c11
  (first | rw [c11b0] | (simp only [i64_w, i32_w]; rw [c11b0]) | skip)
  obtain ⟨⟨t474, t475, t476, t479, t480⟩, A120, H⟩ := Option.bind_eq_some_iff.mp H
  try dsimp only at H
  have A12 := Aside0.mk A120
  clear A120
  by_cases c13 : t472.size + 1 ≤ 9223372036854775807
  rotate_left
  ·rw [if_neg c13] at H
   exact absurd H (by simp)
  rw [if_pos c13] at H
  have c13b0 := eq_true c13
  have c13b1 : decide (t472.size + 1 ≤ 9223372036854775807) = true := decide_eq_true c13
  try have c13b2 : (9223372036854775807 < t472.size + 1) = False := eq_false (Nat.not_lt.2 c13)
  clear c13
  obtain ⟨⟨t482, t483, t484, t487, t488⟩, A140, H⟩ := Option.bind_eq_some_iff.mp H
  try dsimp only at H
  have A14 := Aside0.mk A140
  clear A140
  obtain ⟨ji15, hji15⟩ : ∃ j_ : Int, (wrap64 ((t472.size : Int) - 1)) = j_ := ⟨_, rfl⟩
  replace H : (if 0 ≤ (ji15) then (if (ji15) ≤ (t472.size : Int) then ((snap_Decode.f k (t472.extract 0 ((ji15) : Int).toNat)).bind fun bt490 => (if t480 = 0 then ((gafferref05_Same.f k a0_0 a0_1 l0_2 a0_3 t474 t475 t476 t479).bind fun t498 => (if t498 = true then (if t488 = 4 then (if bt490.2.2.2.2 = 4 then (gafferlaw05_SnapBack.j0 k a1) else (some false)) else (some false)) else (some false))) else (some false))) else (none)) else (none)) = some r := by first | (rw [hji15] at H; exact H) | (simp only [hji15] at H ⊢; exact H)
  (try rw [hji15] at A12)
  (try rw [hji15] at A14)
  have hji15w : (IntKind.i64.wrap ((t472.size : Int) - 1)) = ji15 := (i64_w _).trans hji15
  by_cases c16 : 0 ≤ (ji15)
  rotate_left
  ·rw [if_neg c16] at H
   exact absurd H (by simp)
  rw [if_pos c16] at H
  have c16b0 := eq_true c16
  have c16b1 : decide (0 ≤ (ji15)) = true := decide_eq_true c16
  clear c16
  by_cases c17 : (ji15) ≤ (t472.size : Int)
  rotate_left
  ·rw [if_neg c17] at H
   exact absurd H (by simp)
  rw [if_pos c17] at H
  have c17b0 := eq_true c17
  have c17b1 : decide ((ji15) ≤ (t472.size : Int)) = true := decide_eq_true c17
  clear c17
  obtain ⟨⟨t490, t491, t492, t495, t496⟩, A180, H⟩ := Option.bind_eq_some_iff.mp H
  try dsimp only at H
  have A18 := Aside0.mk A180
  clear A180
  by_cases c19 : t480 = 0
  rotate_left
  ·rw [if_neg c19] at H
   have c19b0 : (t480 == 0) = false := beq_eq_false_iff_ne.mpr c19
   have c19b1 : (t480 != 0) = true := bne_iff_ne.mpr c19
   exact absurd (H.trans (congrArg some hr)) (by simp)
  rw [if_pos c19] at H
  have c19b0 : (t480 == 0) = true := beq_iff_eq.mpr c19
  have c19b1 : (t480 != 0) = false := bne_eq_false_iff_eq.mpr c19
  clear c19
  obtain ⟨t498, A200, H⟩ := Option.bind_eq_some_iff.mp H
  try dsimp only at H
  have A20 := Aside0.mk A200
  clear A200
  by_cases c21 : t498 = true
  rotate_left
  ·replace c21 := Bool.eq_false_iff.mpr c21
   subst c21
   have H1 : (some false) = some r := by rw [if_neg (show ¬ (false = true) by decide)] at H; exact H
   clear H
   have H := H1
   clear H1
   exact absurd (H.trans (congrArg some hr)) (by simp)
  subst c21
  have H1 : (if t488 = 4 then (if t496 = 4 then (gafferlaw05_SnapBack.j0 k a1) else (some false)) else (some false)) = some r := by rw [if_pos rfl] at H; exact H
  clear H
  have H := H1
  clear H1
  by_cases c22 : t488 = 4
  rotate_left
  ·rw [if_neg c22] at H
   have c22b0 : (t488 == 4) = false := beq_eq_false_iff_ne.mpr c22
   have c22b1 : (t488 != 4) = true := bne_iff_ne.mpr c22
   exact absurd (H.trans (congrArg some hr)) (by simp)
  rw [if_pos c22] at H
  have c22b0 : (t488 == 4) = true := beq_iff_eq.mpr c22
  have c22b1 : (t488 != 4) = false := bne_eq_false_iff_eq.mpr c22
  clear c22
  by_cases c23 : t496 = 4
  rotate_left
  ·rw [if_neg c23] at H
   have c23b0 : (t496 == 4) = false := beq_eq_false_iff_ne.mpr c23
   have c23b1 : (t496 != 4) = true := bne_iff_ne.mpr c23
   exact absurd (H.trans (congrArg some hr)) (by simp)
  rw [if_pos c23] at H
  have c23b0 : (t496 == 4) = true := beq_iff_eq.mpr c23
  have c23b1 : (t496 != 4) = false := bne_eq_false_iff_eq.mpr c23
  clear c23
  have H' := Aside0.mk H
  clear H
  go_wp2_with (first | ((with_reducible refine gate_callee (f := 27) rfl ?_); refine goesL_ (some 27) rfl rfl Try.func27 (by kernel_rfl) rfl #[.string t472] rfl (ar_) ?_; (with_reducible refine (snap_Decode.calls k t472 t474 t475 t476 t479 t480 _ A12.out).mono ?_); rintro e w24 ⟨v477, rfl, ho0, hb⟩; refine ⟨_, rfl, ?_⟩; have HO478 := Aside0.mk (Kd.R_lower ho0 (below_size (bl_1 HB GE470))); replace BK470 := Aside0.mk (bb_ BK470 hb); replace HB := Aside0.mk (below_step (bl_1 HB GE470) hb); (try clear hb); (try clear ho0)) | ((with_reducible refine gate_dst (N := 7) rfl ?_); refine bx_ 7 #[.int .u64 0, .int .u64 0, .slice none 0 0, .string (⟨#[]⟩ : ByteArray)] 48 ?_; intro gb481 hg w25 hbox hb; replace HO478 := Aside0.mk (Kd.R_below (by (with_reducible repeat (first | apply Kd.R_alloc | apply Kd.R_drewN | apply Kd.R_drew)); exact HO478.out) hb); have BK481 := Aside0.mk (hbox); have GE481 := Aside0.mk (bs_1 hg HB GE470); replace HB := Aside0.mk (below_step (bl_1 HB GE470) hb); have NB470_481 := Aside0.mk (nb_ hg BK470); have NB481_470 := Aside0.mk (nc_ hg BK470); replace BK470 := Aside0.mk (bb_ BK470 hb); clear hb hbox hg; have hnb26 := NB481_470.out; have hnc26 := NB470_481.out; obtain ⟨hcz27_0, hcz27_1, hcz27_2, hcz27_3, hfz27_0, hfz27_1, hfz27_2, hfz27_3⟩ := c4_ BK481; obtain ⟨Ao28, co28, eo28⟩ := Kd.R_slice HO478.out; subst eo28) | ((with_reducible refine gate_callee (f := 27) rfl ?_); refine goesL_ (some 33) rfl rfl Try.func27 (by kernel_rfl) rfl #[.string (t472 ++ (⟨#[0]⟩ : ByteArray))] rfl (ar_) ?_; (with_reducible refine (snap_Decode.calls k (t472 ++ (⟨#[0]⟩ : ByteArray)) t482 t483 t484 t487 t488 _ A14.out).mono ?_); rintro e w29 ⟨v485, rfl, ho0, hb⟩; refine ⟨_, rfl, ?_⟩; have HO486 := Aside0.mk (Kd.R_lower (Kd.R_new' ho0 (Kd.R_lt (by (with_reducible repeat (first | apply Kd.R_alloc | apply Kd.R_drewN | apply Kd.R_drew)); exact (Kd.R_mono (Kd.R_far (p := ⟨gb481, 3, none⟩) (Kd.R_far (p := ⟨gb481, 2, none⟩) (Kd.R_far (p := ⟨gb481, 1, none⟩) (Kd.R_far (p := ⟨gb481, 0, none⟩) (Kd.R_types HO478.out BK481.out (by decide)) (fun _ hk => hk.2) (.int .u64 t474)) (fun _ hk => hk.2) (.int .u64 t475)) (fun _ hk => hk.2) (.slice Ao28 t476.length co28)) (fun _ hk => hk.2) (.string t479)) (fun _ h_ => h_.1))))) (below_size (bl_2 HB GE470 GE481))); replace HO478 := Aside0.mk (Kd.R_elder' (by (with_reducible repeat (first | apply Kd.R_alloc | apply Kd.R_drewN | apply Kd.R_drew)); exact (Kd.R_mono (Kd.R_far (p := ⟨gb481, 3, none⟩) (Kd.R_far (p := ⟨gb481, 2, none⟩) (Kd.R_far (p := ⟨gb481, 1, none⟩) (Kd.R_far (p := ⟨gb481, 0, none⟩) (Kd.R_types HO478.out BK481.out (by decide)) (fun _ hk => hk.2) (.int .u64 t474)) (fun _ hk => hk.2) (.int .u64 t475)) (fun _ hk => hk.2) (.slice Ao28 t476.length co28)) (fun _ hk => hk.2) (.string t479)) (fun _ h_ => h_.1))) (Kd.R_base ho0) hb); replace BK470 := Aside0.mk (blk_below (g := gb470) (o := .cells #[.int .u64 a0_0, .int .u64 a0_1, .slice A0_2 l0_2.length c0_2, .string a0_3] 48 (0, 0)) (bp_1 BK470 NB470_481) hb); replace BK481 := Aside0.mk (blk_below (g := gb481) (o := .cells #[.int .u64 t474, .int .u64 t475, .slice Ao28 t476.length co28, .string t479] 48 (0, 0)) (bp_0 BK481) hb); replace HB := Aside0.mk (below_step (bl_2 HB GE470 GE481) hb); (try clear hb); (try clear ho0)) | ((with_reducible refine gate_dst (N := 9) rfl ?_); refine bx_ 9 #[.int .u64 0, .int .u64 0, .slice none 0 0, .string (⟨#[]⟩ : ByteArray)] 48 ?_; intro gb489 hg w30 hbox hb; replace HO478 := Aside0.mk (Kd.R_below (by (with_reducible repeat (first | apply Kd.R_alloc | apply Kd.R_drewN | apply Kd.R_drew)); exact HO478.out) hb); replace HO486 := Aside0.mk (Kd.R_below (by (with_reducible repeat (first | apply Kd.R_alloc | apply Kd.R_drewN | apply Kd.R_drew)); exact HO486.out) hb); have BK489 := Aside0.mk (hbox); have GE489 := Aside0.mk (bs_2 hg HB GE470 GE481); replace HB := Aside0.mk (below_step (bl_2 HB GE470 GE481) hb); have NB470_489 := Aside0.mk (nb_ hg BK470); have NB489_470 := Aside0.mk (nc_ hg BK470); replace BK470 := Aside0.mk (bb_ BK470 hb); have NB481_489 := Aside0.mk (nb_ hg BK481); have NB489_481 := Aside0.mk (nc_ hg BK481); replace BK481 := Aside0.mk (bb_ BK481 hb); clear hb hbox hg; have hnb31 := NB489_470.out; have hnc31 := NB470_489.out; have hnb32 := NB489_481.out; have hnc32 := NB481_489.out; obtain ⟨hcz33_0, hcz33_1, hcz33_2, hcz33_3, hfz33_0, hfz33_1, hfz33_2, hfz33_3⟩ := c4_ BK489; obtain ⟨Ao34, co34, eo34⟩ := Kd.R_slice HO486.out; subst eo34) | ((with_reducible refine gate_callee (f := 27) rfl ?_); refine goesL_ (some 42) rfl rfl Try.func27 (by kernel_rfl) rfl #[.string (t472.extract 0 ((ji15) : Int).toNat)] rfl (by (try simp only [List.map_toArray, List.map_cons, List.map_nil]); first | done | (simp only [hji15]; rfl) | rfl | (simp only [List.length_drop, List.length_take]; rfl)) ?_; (with_reducible refine (snap_Decode.calls k (t472.extract 0 ((ji15) : Int).toNat) t490 t491 t492 t495 t496 _ A18.out).mono ?_); rintro e w35 ⟨v493, rfl, ho0, hb⟩; refine ⟨_, rfl, ?_⟩; have HO494 := Aside0.mk (Kd.R_lower (Kd.R_new' (Kd.R_new' ho0 (Kd.R_lt (by (with_reducible repeat (first | apply Kd.R_alloc | apply Kd.R_drewN | apply Kd.R_drew)); exact (Kd.R_mono (Kd.R_far (p := ⟨gb489, 3, none⟩) (Kd.R_far (p := ⟨gb489, 2, none⟩) (Kd.R_far (p := ⟨gb489, 1, none⟩) (Kd.R_far (p := ⟨gb489, 0, none⟩) (Kd.R_types HO478.out BK489.out (by decide)) (fun _ hk => hk.2) (.int .u64 t482)) (fun _ hk => hk.2) (.int .u64 t483)) (fun _ hk => hk.2) (.slice Ao34 t484.length co34)) (fun _ hk => hk.2) (.string t487)) (fun _ h_ => h_.1))))) (Kd.R_lt (by (with_reducible repeat (first | apply Kd.R_alloc | apply Kd.R_drewN | apply Kd.R_drew)); exact (Kd.R_mono (Kd.R_far (p := ⟨gb489, 3, none⟩) (Kd.R_far (p := ⟨gb489, 2, none⟩) (Kd.R_far (p := ⟨gb489, 1, none⟩) (Kd.R_far (p := ⟨gb489, 0, none⟩) (Kd.R_types HO486.out BK489.out (by decide)) (fun _ hk => hk.2) (.int .u64 t482)) (fun _ hk => hk.2) (.int .u64 t483)) (fun _ hk => hk.2) (.slice Ao34 t484.length co34)) (fun _ hk => hk.2) (.string t487)) (fun _ h_ => h_.1))))) (below_size (bl_3 HB GE470 GE481 GE489))); replace HO478 := Aside0.mk (Kd.R_elder' (by (with_reducible repeat (first | apply Kd.R_alloc | apply Kd.R_drewN | apply Kd.R_drew)); exact (Kd.R_mono (Kd.R_far (p := ⟨gb489, 3, none⟩) (Kd.R_far (p := ⟨gb489, 2, none⟩) (Kd.R_far (p := ⟨gb489, 1, none⟩) (Kd.R_far (p := ⟨gb489, 0, none⟩) (Kd.R_types HO478.out BK489.out (by decide)) (fun _ hk => hk.2) (.int .u64 t482)) (fun _ hk => hk.2) (.int .u64 t483)) (fun _ hk => hk.2) (.slice Ao34 t484.length co34)) (fun _ hk => hk.2) (.string t487)) (fun _ h_ => h_.1))) (Kd.R_base ho0) hb); replace HO486 := Aside0.mk (Kd.R_elder' (by (with_reducible repeat (first | apply Kd.R_alloc | apply Kd.R_drewN | apply Kd.R_drew)); exact (Kd.R_mono (Kd.R_far (p := ⟨gb489, 3, none⟩) (Kd.R_far (p := ⟨gb489, 2, none⟩) (Kd.R_far (p := ⟨gb489, 1, none⟩) (Kd.R_far (p := ⟨gb489, 0, none⟩) (Kd.R_types HO486.out BK489.out (by decide)) (fun _ hk => hk.2) (.int .u64 t482)) (fun _ hk => hk.2) (.int .u64 t483)) (fun _ hk => hk.2) (.slice Ao34 t484.length co34)) (fun _ hk => hk.2) (.string t487)) (fun _ h_ => h_.1))) (Kd.R_base ho0) hb); replace BK470 := Aside0.mk (blk_below (g := gb470) (o := .cells #[.int .u64 a0_0, .int .u64 a0_1, .slice A0_2 l0_2.length c0_2, .string a0_3] 48 (0, 0)) (bp_1 BK470 NB470_489) hb); replace BK481 := Aside0.mk (blk_below (g := gb481) (o := .cells #[.int .u64 t474, .int .u64 t475, .slice Ao28 t476.length co28, .string t479] 48 (0, 0)) (bp_1 BK481 NB481_489) hb); replace BK489 := Aside0.mk (blk_below (g := gb489) (o := .cells #[.int .u64 t482, .int .u64 t483, .slice Ao34 t484.length co34, .string t487] 48 (0, 0)) (bp_0 BK489) hb); replace HB := Aside0.mk (below_step (bl_3 HB GE470 GE481 GE489) hb); (try clear hb); (try clear ho0)) | ((with_reducible refine gate_dst (N := 11) rfl ?_); refine bx_ 11 #[.int .u64 0, .int .u64 0, .slice none 0 0, .string (⟨#[]⟩ : ByteArray)] 48 ?_; intro gb497 hg w36 hbox hb; replace HO478 := Aside0.mk (Kd.R_below (by (with_reducible repeat (first | apply Kd.R_alloc | apply Kd.R_drewN | apply Kd.R_drew)); exact HO478.out) hb); replace HO486 := Aside0.mk (Kd.R_below (by (with_reducible repeat (first | apply Kd.R_alloc | apply Kd.R_drewN | apply Kd.R_drew)); exact HO486.out) hb); replace HO494 := Aside0.mk (Kd.R_below (by (with_reducible repeat (first | apply Kd.R_alloc | apply Kd.R_drewN | apply Kd.R_drew)); exact HO494.out) hb); have BK497 := Aside0.mk (hbox); have GE497 := Aside0.mk (bs_3 hg HB GE470 GE481 GE489); replace HB := Aside0.mk (below_step (bl_3 HB GE470 GE481 GE489) hb); have NB470_497 := Aside0.mk (nb_ hg BK470); have NB497_470 := Aside0.mk (nc_ hg BK470); replace BK470 := Aside0.mk (bb_ BK470 hb); have NB481_497 := Aside0.mk (nb_ hg BK481); have NB497_481 := Aside0.mk (nc_ hg BK481); replace BK481 := Aside0.mk (bb_ BK481 hb); have NB489_497 := Aside0.mk (nb_ hg BK489); have NB497_489 := Aside0.mk (nc_ hg BK489); replace BK489 := Aside0.mk (bb_ BK489 hb); clear hb hbox hg; have hnb37 := NB497_470.out; have hnc37 := NB470_497.out; have hnb38 := NB497_481.out; have hnc38 := NB481_497.out; have hnb39 := NB497_489.out; have hnc39 := NB489_497.out; obtain ⟨hcz40_0, hcz40_1, hcz40_2, hcz40_3, hfz40_0, hfz40_1, hfz40_2, hfz40_3⟩ := c4_ BK497; obtain ⟨Ao41, co41, eo41⟩ := Kd.R_slice HO494.out; subst eo41; obtain ⟨hcz42_0, hcz42_1, hcz42_2, hcz42_3, hfz42_0, hfz42_1, hfz42_2, hfz42_3⟩ := c4_ BK470; obtain ⟨hcz43_0, hcz43_1, hcz43_2, hcz43_3, hfz43_0, hfz43_1, hfz43_2, hfz43_3⟩ := c4_ BK481) | (go_at_call 30; (with_reducible refine (gafferref05_Same.calls k a0_0 a0_1 _ _ l0_2 a0_3 t474 t475 _ _ t476 t479 true _ ?side1 ?side2 ?side3 ?side4 A20.out).mono ?_); (case side1 => exact Kd.C_below HR0_2.out (bl_4 HB GE470 GE481 GE489 GE497)); (case side2 => exact HC0_2.out); (case side3 => refine (Kd.R_reads' (e := 3) (base := w.heap.size) (ok := fun k_ => ((True ∧ some k_ ≠ (.slice Ao34 t484.length co34 : Value).ownBlock) ∧ some k_ ≠ (.slice Ao41 t492.length co41 : Value).ownBlock)) (n := t476.length) (c := co28) ?_).2.2; exact (by (with_reducible repeat (first | apply Kd.R_alloc | apply Kd.R_drewN | apply Kd.R_drew)); exact (Kd.R_mono (Kd.R_far (p := ⟨gb497, 3, none⟩) (Kd.R_far (p := ⟨gb497, 2, none⟩) (Kd.R_far (p := ⟨gb497, 1, none⟩) (Kd.R_far (p := ⟨gb497, 0, none⟩) (Kd.R_types HO478.out BK497.out (by decide)) (fun _ hk => hk.2) (.int .u64 t490)) (fun _ hk => hk.2) (.int .u64 t491)) (fun _ hk => hk.2) (.slice Ao41 t492.length co41)) (fun _ hk => hk.2) (.string t495)) (fun _ h_ => h_.1)))); (case side4 => exact (Kd.R_reads' HO478.out).2.1); rintro e w44 ⟨rfl, hb⟩; replace HO478 := Aside0.mk (Kd.R_below (by (with_reducible repeat (first | apply Kd.R_alloc | apply Kd.R_drewN | apply Kd.R_drew)); exact (Kd.R_mono (Kd.R_far (p := ⟨gb497, 3, none⟩) (Kd.R_far (p := ⟨gb497, 2, none⟩) (Kd.R_far (p := ⟨gb497, 1, none⟩) (Kd.R_far (p := ⟨gb497, 0, none⟩) (Kd.R_types HO478.out BK497.out (by decide)) (fun _ hk => hk.2) (.int .u64 t490)) (fun _ hk => hk.2) (.int .u64 t491)) (fun _ hk => hk.2) (.slice Ao41 t492.length co41)) (fun _ hk => hk.2) (.string t495)) (fun _ h_ => h_.1))) hb); replace HO486 := Aside0.mk (Kd.R_below (by (with_reducible repeat (first | apply Kd.R_alloc | apply Kd.R_drewN | apply Kd.R_drew)); exact (Kd.R_mono (Kd.R_far (p := ⟨gb497, 3, none⟩) (Kd.R_far (p := ⟨gb497, 2, none⟩) (Kd.R_far (p := ⟨gb497, 1, none⟩) (Kd.R_far (p := ⟨gb497, 0, none⟩) (Kd.R_types HO486.out BK497.out (by decide)) (fun _ hk => hk.2) (.int .u64 t490)) (fun _ hk => hk.2) (.int .u64 t491)) (fun _ hk => hk.2) (.slice Ao41 t492.length co41)) (fun _ hk => hk.2) (.string t495)) (fun _ h_ => h_.1))) hb); replace HO494 := Aside0.mk (Kd.R_below (by (with_reducible repeat (first | apply Kd.R_alloc | apply Kd.R_drewN | apply Kd.R_drew)); exact (Kd.R_mono (Kd.R_far (p := ⟨gb497, 3, none⟩) (Kd.R_far (p := ⟨gb497, 2, none⟩) (Kd.R_far (p := ⟨gb497, 1, none⟩) (Kd.R_far (p := ⟨gb497, 0, none⟩) (Kd.R_types HO494.out BK497.out (by decide)) (fun _ hk => hk.2) (.int .u64 t490)) (fun _ hk => hk.2) (.int .u64 t491)) (fun _ hk => hk.2) (.slice Ao41 t492.length co41)) (fun _ hk => hk.2) (.string t495)) (fun _ h_ => h_.1))) hb); replace BK470 := Aside0.mk (blk_below (g := gb470) (o := .cells #[.int .u64 a0_0, .int .u64 a0_1, .slice A0_2 l0_2.length c0_2, .string a0_3] 48 (0, 0)) (bp_1 BK470 NB470_497) hb); replace BK481 := Aside0.mk (blk_below (g := gb481) (o := .cells #[.int .u64 t474, .int .u64 t475, .slice Ao28 t476.length co28, .string t479] 48 (0, 0)) (bp_1 BK481 NB481_497) hb); replace BK489 := Aside0.mk (blk_below (g := gb489) (o := .cells #[.int .u64 t482, .int .u64 t483, .slice Ao34 t484.length co34, .string t487] 48 (0, 0)) (bp_1 BK489 NB489_497) hb); replace BK497 := Aside0.mk (blk_below (g := gb497) (o := .cells #[.int .u64 t490, .int .u64 t491, .slice Ao41 t492.length co41, .string t495] 48 (0, 0)) (bp_0 BK497) hb); replace HB := Aside0.mk (below_step (bl_4 HB GE470 GE481 GE489 GE497) hb); (try clear hb)))
  go_meet
  case rel => exact ⟨_, H', ⟨by first | omega | exact Nat.le_refl _⟩, ⟨bk_ BK470⟩, ⟨bl_4 HB GE470 GE481 GE489 GE497⟩⟩
 case rest =>
  clear HC6
  try clear c1
  try clear c2
  try clear p2
  try clear c3
  try clear c4
  try clear p6
  try clear c10
  try clear c11
  try clear c11b0
  try clear c11b1
  try clear c13
  try clear c13b0
  try clear c13b1
  try clear c13b2
  try clear c16
  try clear c16b0
  try clear c16b1
  try clear c17
  try clear c17b0
  try clear c17b1
  try clear c19
  try clear c19b0
  try clear c19b1
  try clear c21
  try clear c22
  try clear c22b0
  try clear c22b1
  try clear c23
  try clear c23b0
  try clear c23b1
  try clear c25
  try clear c26
  try clear c27
  try clear c29
  try clear c31
  try clear c32
  try clear c37
  try clear c38
  try clear c39
  try clear hcz27_0
  try clear hcz27_1
  try clear hcz27_2
  try clear hcz27_3
  try clear hcz33_0
  try clear hcz33_1
  try clear hcz33_2
  try clear hcz33_3
  try clear hcz40_0
  try clear hcz40_1
  try clear hcz40_2
  try clear hcz40_3
  try clear hcz42_0
  try clear hcz42_1
  try clear hcz42_2
  try clear hcz42_3
  try clear hcz43_0
  try clear hcz43_1
  try clear hcz43_2
  try clear hcz43_3
  try clear hcz9_0
  try clear hcz9_1
  try clear hcz9_2
  try clear hcz9_3
  try clear hfz27_0
  try clear hfz27_1
  try clear hfz27_2
  try clear hfz27_3
  try clear hfz33_0
  try clear hfz33_1
  try clear hfz33_2
  try clear hfz33_3
  try clear hfz40_0
  try clear hfz40_1
  try clear hfz40_2
  try clear hfz40_3
  try clear hfz42_0
  try clear hfz42_1
  try clear hfz42_2
  try clear hfz42_3
  try clear hfz43_0
  try clear hfz43_1
  try clear hfz43_2
  try clear hfz43_3
  try clear hfz9_0
  try clear hfz9_1
  try clear hfz9_2
  try clear hfz9_3
  obtain ⟨kq, HA, HJ5, BK470, HB⟩ := hcut
  cases kq with
  | zero => exact absurd HA.out (by simp [gafferlaw05_SnapBack.j0])
  | succ kj5 =>
   have H := HA.out
   clear HA
   simp only [gafferlaw05_SnapBack.j0] at H
   obtain ⟨⟨t499, t500, t501, t504, t505⟩, A450, H⟩ := Option.bind_eq_some_iff.mp H
   try dsimp only at H
   have A45 := Aside0.mk A450
   clear A450
   by_cases c46 : t505 = 0
   rotate_left
   ·rw [if_neg c46] at H
    have c46b0 : (t505 == 0) = false := beq_eq_false_iff_ne.mpr c46
    have c46b1 : (t505 != 0) = true := bne_iff_ne.mpr c46
    by_cases c55 : t505 = 4
    rotate_left
    ·rw [if_neg c55] at H
     have c55b0 : (t505 == 4) = false := beq_eq_false_iff_ne.mpr c55
     have c55b1 : (t505 != 4) = true := bne_iff_ne.mpr c55
     exact absurd (H.trans (congrArg some hr)) (by simp)
    rw [if_pos c55] at H
    have c55b0 : (t505 == 4) = true := beq_iff_eq.mpr c55
    have c55b1 : (t505 != 4) = false := bne_eq_false_iff_eq.mpr c55
    clear c55
    obtain ⟨t509, A560, H⟩ := Option.bind_eq_some_iff.mp H
    try dsimp only at H
    have A56 := Aside0.mk A560
    clear A560
    obtain rfl := Option.some.inj H
    go_wp2_with (first | ((with_reducible refine gate_callee (f := 27) rfl ?_); refine goesL_ (some 63) rfl rfl Try.func27 (by kernel_rfl) rfl #[.string a1] rfl (ar_) ?_; (with_reducible refine (snap_Decode.calls kj5 a1 t499 t500 t501 t504 t505 _ A45.out).mono ?_); rintro e w57 ⟨v502, rfl, ho0, hb⟩; refine ⟨_, rfl, ?_⟩; have HO503 := Aside0.mk (Kd.R_lower ho0 (below_size (bl_1 HB GE470))); replace BK470 := Aside0.mk (bb_ BK470 hb); replace HB := Aside0.mk (below_step (bl_1 HB GE470) hb); (try clear hb); (try clear ho0)) | ((with_reducible refine gate_dst (N := 13) rfl ?_); refine bx_ 13 #[.int .u64 0, .int .u64 0, .slice none 0 0, .string (⟨#[]⟩ : ByteArray)] 48 ?_; intro gb506 hg w58 hbox hb; replace HO503 := Aside0.mk (Kd.R_below (by (with_reducible repeat (first | apply Kd.R_alloc | apply Kd.R_drewN | apply Kd.R_drew)); exact HO503.out) hb); have BK506 := Aside0.mk (hbox); have GE506 := Aside0.mk (bs_1 hg HB GE470); replace HB := Aside0.mk (below_step (bl_1 HB GE470) hb); have NB470_506 := Aside0.mk (nb_ hg BK470); have NB506_470 := Aside0.mk (nc_ hg BK470); replace BK470 := Aside0.mk (bb_ BK470 hb); clear hb hbox hg; have hnb59 := NB506_470.out; have hnc59 := NB470_506.out; obtain ⟨hcz60_0, hcz60_1, hcz60_2, hcz60_3, hfz60_0, hfz60_1, hfz60_2, hfz60_3⟩ := c4_ BK506; obtain ⟨Ao61, co61, eo61⟩ := Kd.R_slice HO503.out; subst eo61) | (go_at_call 30; (refine (gafferref05_Same.calls kj5 t499 t500 _ _ t501 t504 0 0 _ _ ([] : List Int) (⟨#[]⟩ : ByteArray) t509 _ ?side1 ?side2 ?side3 ?side4 A56.out).mono ?_); (case side1 => refine (Kd.R_reads' (e := 3) (base := w.heap.size) (ok := fun k_ => True) (n := t501.length) (c := co61) ?_).2.2; exact (by (with_reducible repeat (first | apply Kd.R_alloc | apply Kd.R_drewN | apply Kd.R_drew)); exact (Kd.R_mono (Kd.R_far (p := ⟨gb506, 3, none⟩) (Kd.R_far (p := ⟨gb506, 2, none⟩) (Kd.R_far (p := ⟨gb506, 1, none⟩) (Kd.R_far (p := ⟨gb506, 0, none⟩) (Kd.R_types HO503.out BK506.out (by decide)) (fun _ hk => hk.2) (.int .u64 t499)) (fun _ hk => hk.2) (.int .u64 t500)) (fun _ hk => hk.2) (.slice Ao61 t501.length co61)) (fun _ hk => hk.2) (.string t504)) (fun _ h_ => h_.1)))); (case side2 => exact (Kd.R_reads' HO503.out).2.1); (case side3 => exact Kd.C_nil _ _); (case side4 => exact Nat.le_refl _); rintro e w62 ⟨rfl, hb⟩; (try clear A56); replace HO503 := Aside0.mk (Kd.R_below (by (with_reducible repeat (first | apply Kd.R_alloc | apply Kd.R_drewN | apply Kd.R_drew)); exact (Kd.R_mono (Kd.R_far (p := ⟨gb506, 3, none⟩) (Kd.R_far (p := ⟨gb506, 2, none⟩) (Kd.R_far (p := ⟨gb506, 1, none⟩) (Kd.R_far (p := ⟨gb506, 0, none⟩) (Kd.R_types HO503.out BK506.out (by decide)) (fun _ hk => hk.2) (.int .u64 t499)) (fun _ hk => hk.2) (.int .u64 t500)) (fun _ hk => hk.2) (.slice Ao61 t501.length co61)) (fun _ hk => hk.2) (.string t504)) (fun _ h_ => h_.1))) hb); replace BK470 := Aside0.mk (blk_below (g := gb470) (o := .cells #[.int .u64 a0_0, .int .u64 a0_1, .slice A0_2 l0_2.length c0_2, .string a0_3] 48 (0, 0)) (bp_1 BK470 NB470_506) hb); replace BK506 := Aside0.mk (blk_below (g := gb506) (o := .cells #[.int .u64 t499, .int .u64 t500, .slice Ao61 t501.length co61, .string t504] 48 (0, 0)) (bp_0 BK506) hb); replace HB := Aside0.mk (below_step (bl_2 HB GE470 GE506) hb); (try clear hb)))
    go_ret
    exact ⟨by first | rfl | (simp; done) | (simp [*]; done), bl_2 HB GE470 GE506⟩
   rw [if_pos c46] at H
   have c46b0 : (t505 == 0) = true := beq_iff_eq.mpr c46
   have c46b1 : (t505 != 0) = false := bne_eq_false_iff_eq.mpr c46
   clear c46
   obtain ⟨⟨t507, t508⟩, A470, H⟩ := Option.bind_eq_some_iff.mp H
   try dsimp only at H
   have A47 := Aside0.mk A470
   clear A470
   by_cases c48 : t508 = 0
   rotate_left
   ·rw [if_neg c48] at H
    have c48b0 : (t508 == 0) = false := beq_eq_false_iff_ne.mpr c48
    have c48b1 : (t508 != 0) = true := bne_iff_ne.mpr c48
    exact absurd (H.trans (congrArg some hr)) (by simp)
   rw [if_pos c48] at H
   have c48b0 : (t508 == 0) = true := beq_iff_eq.mpr c48
   have c48b1 : (t508 != 0) = false := bne_eq_false_iff_eq.mpr c48
   clear c48
   obtain rfl := Option.some.inj H
   go_wp2_with (first | ((with_reducible refine gate_callee (f := 27) rfl ?_); refine goesL_ (some 63) rfl rfl Try.func27 (by kernel_rfl) rfl #[.string a1] rfl (ar_) ?_; (with_reducible refine (snap_Decode.calls kj5 a1 t499 t500 t501 t504 t505 _ A45.out).mono ?_); rintro e w49 ⟨v502, rfl, ho0, hb⟩; refine ⟨_, rfl, ?_⟩; have HO503 := Aside0.mk (Kd.R_lower ho0 (below_size (bl_1 HB GE470))); replace BK470 := Aside0.mk (bb_ BK470 hb); replace HB := Aside0.mk (below_step (bl_1 HB GE470) hb); (try clear hb); (try clear ho0)) | ((with_reducible refine gate_dst (N := 13) rfl ?_); refine bx_ 13 #[.int .u64 0, .int .u64 0, .slice none 0 0, .string (⟨#[]⟩ : ByteArray)] 48 ?_; intro gb506 hg w50 hbox hb; replace HO503 := Aside0.mk (Kd.R_below (by (with_reducible repeat (first | apply Kd.R_alloc | apply Kd.R_drewN | apply Kd.R_drew)); exact HO503.out) hb); have BK506 := Aside0.mk (hbox); have GE506 := Aside0.mk (bs_1 hg HB GE470); replace HB := Aside0.mk (below_step (bl_1 HB GE470) hb); have NB470_506 := Aside0.mk (nb_ hg BK470); have NB506_470 := Aside0.mk (nc_ hg BK470); replace BK470 := Aside0.mk (bb_ BK470 hb); clear hb hbox hg; have hnb51 := NB506_470.out; have hnc51 := NB470_506.out; obtain ⟨hcz52_0, hcz52_1, hcz52_2, hcz52_3, hfz52_0, hfz52_1, hfz52_2, hfz52_3⟩ := c4_ BK506; obtain ⟨Ao53, co53, eo53⟩ := Kd.R_slice HO503.out; subst eo53) | ((with_reducible refine gate_callee (f := 25) rfl ?_); refine goesL_ (some 77) rfl rfl Try.func25 (by kernel_rfl) rfl #[.agg #[.int .u64 t499, .int .u64 t500, .slice Ao53 t501.length co53, .string t504]] rfl (ar_) ?_; (with_reducible refine (snap_Encode.calls kj5 t499 t500 _ _ t501 t504 t507 t508 _ ?side1 ?side2 A47.out).mono ?_); (case side1 => refine (Kd.R_reads' (e := 3) (base := w.heap.size) (ok := fun k_ => True) (n := t501.length) (c := co53) ?_).2.2; exact (by (with_reducible repeat (first | apply Kd.R_alloc | apply Kd.R_drewN | apply Kd.R_drew)); exact (Kd.R_mono (Kd.R_far (p := ⟨gb506, 3, none⟩) (Kd.R_far (p := ⟨gb506, 2, none⟩) (Kd.R_far (p := ⟨gb506, 1, none⟩) (Kd.R_far (p := ⟨gb506, 0, none⟩) (Kd.R_types HO503.out BK506.out (by decide)) (fun _ hk => hk.2) (.int .u64 t499)) (fun _ hk => hk.2) (.int .u64 t500)) (fun _ hk => hk.2) (.slice Ao53 t501.length co53)) (fun _ hk => hk.2) (.string t504)) (fun _ h_ => h_.1)))); (case side2 => exact (Kd.R_reads' HO503.out).2.1); rintro e w54 ⟨rfl, hb⟩; refine ⟨_, rfl, ?_⟩; replace HO503 := Aside0.mk (Kd.R_below (by (with_reducible repeat (first | apply Kd.R_alloc | apply Kd.R_drewN | apply Kd.R_drew)); exact (Kd.R_mono (Kd.R_far (p := ⟨gb506, 3, none⟩) (Kd.R_far (p := ⟨gb506, 2, none⟩) (Kd.R_far (p := ⟨gb506, 1, none⟩) (Kd.R_far (p := ⟨gb506, 0, none⟩) (Kd.R_types HO503.out BK506.out (by decide)) (fun _ hk => hk.2) (.int .u64 t499)) (fun _ hk => hk.2) (.int .u64 t500)) (fun _ hk => hk.2) (.slice Ao53 t501.length co53)) (fun _ hk => hk.2) (.string t504)) (fun _ h_ => h_.1))) hb); replace BK470 := Aside0.mk (blk_below (g := gb470) (o := .cells #[.int .u64 a0_0, .int .u64 a0_1, .slice A0_2 l0_2.length c0_2, .string a0_3] 48 (0, 0)) (bp_1 BK470 NB470_506) hb); replace BK506 := Aside0.mk (blk_below (g := gb506) (o := .cells #[.int .u64 t499, .int .u64 t500, .slice Ao53 t501.length co53, .string t504] 48 (0, 0)) (bp_0 BK506) hb); replace HB := Aside0.mk (below_step (bl_2 HB GE470 GE506) hb); (try clear hb)))
   go_ret
   exact ⟨by first | rfl | (simp; done) | (simp [*]; done), bl_2 HB GE470 GE506⟩
/-- THE ONE PURE STATEMENT of gafferlaw05_SnapBack: yours. -/
def gafferlaw05_SnapBack.Pure : Prop := ∀ (x0 : S48) (x1 : ByteArray), ok48 x0 → okStr x1 → ∃ k, gafferlaw05_SnapBack.f k x0.f0 x0.f1 x0.f2 x0.f3 x1 = some true

end Go.Proofs.Ytpigjmjbfpipnaa.PC
