-- By a program of this session.
import Derived.Test.YtpigjmjbfpipnaaPDx0
import Derived.Test.YtpigjmjbfpipnaaPDx1
import Derived.Test.YtpigjmjbfpipnaaPDx3
import Derived.Test.YtpigjmjbfpipnaaPDx6
import Derived.Test.YtpigjmjbfpipnaaPDx9
import Derived.Test.YtpigjmjbfpipnaaPDx13
import Derived.Test.YtpigjmjbfpipnaaPDx18
import Derived.Test.YtpigjmjbfpipnaaPDx19
import Derived.Test.YtpigjmjbfpipnaaPDx20
namespace Go.Proofs.Ytpigjmjbfpipnaa.PD
open Go.RowKit YtpigjmjbfpipnaaW.PrintWords YtpigjmjbfpipnaaW.PrintLast YtpigjmjbfpipnaaW.PrintMore Sh Ytpigjmjbfpipnaa.Op
attribute [local go_sem] max2_int min2_int max_two min_two max_three min_three max_four min_four
set_option linter.unusedVariables false
set_option maxHeartbeats 80000000
set_option maxRecDepth 100000
set_option linter.unusedSimpArgs false

attribute [local go_sem high] eqA27
def gafferlaw04_HardDoes.f (k : Nat) (l0_0 : List (S71)) (a0_1 : Bool) (a0_2 : Int) (a1_0 : Int) (a1_1 : Int) : Option (Bool) := (gafferref02_Copy.f l0_0 a0_1 a0_2).bind fun bt578 => ((hard_Load.f k bt578.1 bt578.2.1 bt578.2.2).bind fun bt584 => ((gafferref04_Load.f k l0_0 a0_1 a0_2).bind fun bt588 => ((hard_Save.f k bt578.1 bt578.2.1 bt578.2.2 a1_0 a1_1).bind fun bt592 => ((gafferref04_Save.f k l0_0 a0_1 a0_2 a1_0 a1_1).bind fun bt599 => ((gafferlaw04_lives.f k).bind fun t606 => (if t606 = true then (if (bt584.1 == bt588.1 && (bt584.2.1 == bt588.2.1)) = true then (if bt584.2.2 = bt588.2.2 then ((gafferref02_Same.f k bt592.1 bt592.2.1 bt592.2.2.1 bt599.1 bt599.2.1 bt599.2.2.1).bind fun t607 => (if t607 = true then (if bt592.2.2.2 = bt599.2.2.2 then ((hard_Check.f a1_0 a1_1).bind fun t608 => ((gafferref04_Check.f a1_0 a1_1).bind fun t609 => (if t608 = t609 then ((gafferref02_Same.f k bt578.1 bt578.2.1 bt578.2.2 l0_0 a0_1 a0_2).bind fun t610 => (some t610)) else (some false)))) else (some false)) else (some false))) else (some false)) else (some false)) else (some false)))))))
theorem gafferlaw04_HardDoes.mono : ∀ a0 a1 a2 a3 a4 k, LeO (gafferlaw04_HardDoes.f k a0 a1 a2 a3 a4) (gafferlaw04_HardDoes.f (k + 1) a0 a1 a2 a3 a4) := by
 intro a0 a1 a2 a3 a4 k
 unfold gafferlaw04_HardDoes.f
 repeat' with_reducible first | apply gafferlaw04_lives.mono | apply gafferref02_Same.mono | apply gafferref04_Load.mono | apply gafferref04_Save.mono | apply hard_Load.mono | apply hard_Save.mono | apply LeO.refl | apply LeO.none | apply LeO.ite | refine LeO.bind ?_ (fun _ => ?_)
def gafferlaw04_HardDoes.T6 : Bool × List (List Nat × List Nat) := (true, [([], []), ([0, 0], [0]), ([1], [1]), ([1], [1]), ([2, 3, 1], [1, 2, 3]), ([1, 4], [1, 4]), ([5, 1], [5]), ([6], [6]), ([6], [6]), ([7, 8, 6], [6, 7, 8]), ([6, 9], [6, 9]), ([10, 6], [10]), ([11], [11]), ([11], [11]), ([12, 13, 11, 11], [11, 12, 13]), ([11, 14], [11, 14]), ([15, 14], [15]), ([16], [16]), ([16], [16]), ([17, 18, 16], [16, 17, 18]), ([16, 19], [16, 19]), ([20, 16], [20]), ([21], [21]), ([22, 21, 21], [21, 22]), ([21], [21]), ([24, 23, 21], [21, 24]), ([23, 25, 21], [21, 23, 25]), ([21, 26], [21, 26]), ([27, 25], [27]), ([28], [28]), ([28], [28]), ([29, 30, 28, 28], [28, 29, 30]), ([28, 31], [28, 31]), ([32, 31, 0, 1, 2, 3, 4, 5, 6, 7, 8, 9, 10, 11, 12, 13, 14, 15, 16, 17, 18, 19, 20, 21, 22, 23, 24, 25, 26, 27, 28, 29, 30, 31, 32], [32])])
def gafferlaw04_HardDoes.B6 : List Nat := [0, 1, 3, 3, 15, 31, 63, 127, 127, 511, 1023, 2047, 4095, 4095, 16383, 32767, 65535, 131071, 131071, 524287, 1048575, 2097151, 4194303, 8388607, 4194303, 33554431, 67108863, 134217727, 268435455, 536870911, 536870911, 2147483647, 4294967295, 8589934591]
theorem gafferlaw04_HardDoes.tab6 : rtab .any (opsOf Try.f3 6) = gafferlaw04_HardDoes.T6 := by kernel_rfl
theorem gafferlaw04_HardDoes.bits6 : waitsOk gafferlaw04_HardDoes.T6.2 gafferlaw04_HardDoes.B6 = true := by kernel_rfl
theorem gafferlaw04_HardDoes.calls (k : Nat) (A0_0 : Option Addr) (c0_0 : Nat) (l0_0 : List (S71)) (a0_1 : Bool) (a0_2 : Int) (a1_0 : Int) (a1_1 : Int) (r : Bool) (w : World) (hr0_0 : Kd.C k71 w A0_0 l0_0.length l0_0) (hc0_0 : l0_0.length ≤ c0_0) (h : gafferlaw04_HardDoes.f k l0_0 a0_1 a0_2 a1_0 a1_1 = some r) (hr : r = true) :
  Calls Try.prog 3 #[.agg #[.slice A0_0 l0_0.length c0_0, .bool a0_1, .int .i64 a0_2], .agg #[.int .u64 a1_0, .int .i64 a1_1]] w fun e w' => e = .returned (.bool r) ∧ Below w.heap.size w w' := by
 have hu24 := Try.underlying24
 have hu27 := Try.underlying27
 have HR0_0 := a_ hr0_0
 have HC0_0 := a_ hc0_0
 clear hr0_0 hc0_0
 have HB := a_ (Below.refl w.heap.size w)
 have H : ((gafferref02_Copy.f l0_0 a0_1 a0_2).bind fun bt578 => ((hard_Load.f k bt578.1 bt578.2.1 bt578.2.2).bind fun bt584 => ((gafferref04_Load.f k l0_0 a0_1 a0_2).bind fun bt588 => ((hard_Save.f k bt578.1 bt578.2.1 bt578.2.2 a1_0 a1_1).bind fun bt592 => ((gafferref04_Save.f k l0_0 a0_1 a0_2 a1_0 a1_1).bind fun bt599 => ((gafferlaw04_lives.f k).bind fun t606 => (if t606 = true then (if (bt584.1 == bt588.1 && (bt584.2.1 == bt588.2.1)) = true then (if bt584.2.2 = bt588.2.2 then ((gafferref02_Same.f k bt592.1 bt592.2.1 bt592.2.2.1 bt599.1 bt599.2.1 bt599.2.2.1).bind fun t607 => (if t607 = true then (if bt592.2.2.2 = bt599.2.2.2 then ((hard_Check.f a1_0 a1_1).bind fun t608 => ((gafferref04_Check.f a1_0 a1_1).bind fun t609 => (if t608 = t609 then ((gafferref02_Same.f k bt578.1 bt578.2.1 bt578.2.2 l0_0 a0_1 a0_2).bind fun t610 => (some t610)) else (some false)))) else (some false)) else (some false))) else (some false)) else (some false)) else (some false)))))))) = some r := h
 clear h
 obtain ⟨⟨t578, t581, t582⟩, A30, H⟩ := Option.bind_eq_some_iff.mp H
 try dsimp only at H
 have A3 := a_ A30
 clear A30
 obtain ⟨⟨t584, t585, t586⟩, A40, H⟩ := Option.bind_eq_some_iff.mp H
 try dsimp only at H
 have A4 := a_ A40
 clear A40
 obtain ⟨⟨t588, t589, t590⟩, A50, H⟩ := Option.bind_eq_some_iff.mp H
 try dsimp only at H
 have A5 := a_ A50
 clear A50
 obtain ⟨⟨t592, t595, t596, t597⟩, A60, H⟩ := Option.bind_eq_some_iff.mp H
 try dsimp only at H
 have A6 := a_ A60
 clear A60
 obtain ⟨⟨t599, t602, t603, t604⟩, A70, H⟩ := Option.bind_eq_some_iff.mp H
 try dsimp only at H
 have A7 := a_ A70
 clear A70
 obtain ⟨t606, A80, H⟩ := Option.bind_eq_some_iff.mp H
 try dsimp only at H
 have A8 := a_ A80
 clear A80
 by_cases c9 : t606 = true
 rotate_left
 ·replace c9 := Bool.eq_false_iff.mpr c9
  subst c9
  have H1 : (some false) = some r := by rw [if_neg (show ¬ (false = true) by decide)] at H; exact H
  clear H
  have H := H1
  clear H1
  exact absurd (H.trans (congrArg some hr)) (by simp)

 subst c9
 have H1 : (if (t584 == t588 && (t585 == t589)) = true then (if t586 = t590 then ((gafferref02_Same.f k t592 t595 t596 t599 t602 t603).bind fun t607 => (if t607 = true then (if t597 = t604 then ((hard_Check.f a1_0 a1_1).bind fun t608 => ((gafferref04_Check.f a1_0 a1_1).bind fun t609 => (if t608 = t609 then ((gafferref02_Same.f k t578 t581 t582 l0_0 a0_1 a0_2).bind fun t610 => (some t610)) else (some false)))) else (some false)) else (some false))) else (some false)) else (some false)) = some r := by rw [if_pos rfl] at H; exact H
 clear H
 have H := H1
 clear H1
 by_cases c10 : (t584 == t588 && (t585 == t589)) = true
 rotate_left
 ·rw [if_neg c10] at H
  have c10b0 : (t584 == t588 && (t585 == t589)) = false := by simpa using c10
  (try (have c10b1 : decide (t584 = t588 && (t585 == t589)) = false := by simpa using c10))
  (try (have c10b2 : (t584 == t588 && (t585 == t589)) = false := by simpa using c10))
  (try (have c10b3 : ¬ (t584 = t588 && (t585 == t589)) := by simpa using c10))
  clear c10
  exact absurd (H.trans (congrArg some hr)) (by simp)
 rw [if_pos c10] at H
 have c10b0 : (t584 == t588 && (t585 == t589)) = true := c10
 (try (have c10b1 : decide (t584 = t588 && (t585 == t589)) = true := by simpa using c10))
 (try (have c10b2 : (t584 == t588 && (t585 == t589)) = true := by simpa using c10))
 clear c10
 by_cases c11 : t586 = t590
 rotate_left
 ·rw [if_neg c11] at H
  have c11b0 : (t586 == t590) = false := beq_eq_false_iff_ne.mpr c11
  have c11b1 : (t586 != t590) = true := bne_iff_ne.mpr c11
  exact absurd (H.trans (congrArg some hr)) (by simp)
 rw [if_pos c11] at H
 have c11b0 : (t586 == t590) = true := beq_iff_eq.mpr c11
 have c11b1 : (t586 != t590) = false := bne_eq_false_iff_eq.mpr c11
 clear c11
 obtain ⟨t607, A120, H⟩ := Option.bind_eq_some_iff.mp H
 try dsimp only at H
 have A12 := a_ A120
 clear A120
 by_cases c13 : t607 = true
 rotate_left
 ·replace c13 := Bool.eq_false_iff.mpr c13
  subst c13
  have H1 : (some false) = some r := by rw [if_neg (show ¬ (false = true) by decide)] at H; exact H
  clear H
  have H := H1
  clear H1
  exact absurd (H.trans (congrArg some hr)) (by simp)
 subst c13
 have H1 : (if t597 = t604 then ((hard_Check.f a1_0 a1_1).bind fun t608 => ((gafferref04_Check.f a1_0 a1_1).bind fun t609 => (if t608 = t609 then ((gafferref02_Same.f k t578 t581 t582 l0_0 a0_1 a0_2).bind fun t610 => (some t610)) else (some false)))) else (some false)) = some r := by rw [if_pos rfl] at H; exact H
 clear H
 have H := H1
 clear H1
 by_cases c14 : t597 = t604
 rotate_left
 ·rw [if_neg c14] at H
  have c14b0 : (t597 == t604) = false := beq_eq_false_iff_ne.mpr c14
  have c14b1 : (t597 != t604) = true := bne_iff_ne.mpr c14
  exact absurd (H.trans (congrArg some hr)) (by simp)
 rw [if_pos c14] at H
 have c14b0 : (t597 == t604) = true := beq_iff_eq.mpr c14
 have c14b1 : (t597 != t604) = false := bne_eq_false_iff_eq.mpr c14
 clear c14
 obtain ⟨t608, A150, H⟩ := Option.bind_eq_some_iff.mp H
 try dsimp only at H
 have A15 := a_ A150
 clear A150
 obtain ⟨t609, A160, H⟩ := Option.bind_eq_some_iff.mp H
 try dsimp only at H
 have A16 := a_ A160
 clear A160
 by_cases c17 : t608 = t609
 rotate_left
 ·rw [if_neg c17] at H
  have c17b0 : (t608 == t609) = false := beq_eq_false_iff_ne.mpr c17
  have c17b1 : (t608 != t609) = true := bne_iff_ne.mpr c17
  exact absurd (H.trans (congrArg some hr)) (by simp)
 rw [if_pos c17] at H
 have c17b0 : (t608 == t609) = true := beq_iff_eq.mpr c17
 have c17b1 : (t608 != t609) = false := bne_eq_false_iff_eq.mpr c17
 clear c17
 obtain ⟨t610, A180, H⟩ := Option.bind_eq_some_iff.mp H
 try dsimp only at H
 have A18 := a_ A180
 clear A180
 obtain rfl := Option.some.inj H
 go_enter Try.func3, Try.ntmps3
 try go_wp2_with (first | ((with_reducible refine gd_ 2 ?_); refine bx_ 2 #[.slice A0_0 l0_0.length c0_0, .bool a0_1, .int .i64 a0_2] 24 ?_; intro gb576 hg w19 hbox hb; have BK576 := a_ (hbox); have GW576 := a_ (bs_0 hg HB); have GE576 := a_ (bs_0 hg HB); replace HB := hB_ (bl_ HB) hb; clear hb hbox hg) | ((with_reducible refine gd_ 3 ?_); refine bx_ 3 #[.int .u64 a1_0, .int .i64 a1_1] 27 ?_; intro gb577 hg w20 hbox hb; have BK577 := a_ (hbox); have GW577 := a_ (bs_1 hg HB GE576); have GE577 := a_ (bs_1 hg HB GE576); replace HB := hB_ (bl_1 HB GE576) hb; have NB576_577 := nB_ hg BK576; have NB577_576 := nC_ hg BK576; replace BK576 := bB_ BK576 hb; clear hb hbox hg; have hnb21 := NB576_577.out; have hnc21 := NB577_576.out; obtain ⟨hcz22_0, hcz22_1, hcz22_2, hfz22_0, hfz22_1, hfz22_2⟩ := c3_ BK576) | ((with_reducible refine gk_ 14 ?_); refine gl_ (some 15) Try.func14 #[.agg #[.slice A0_0 l0_0.length c0_0, .bool a0_1, .int .i64 a0_2]] ?_; (with_reducible refine (gafferref02_Copy.calls _ _ l0_0 a0_1 a0_2 t578 t581 t582 _ ?side1 ?side2 A3.out).mono ?_); (case side1 => exact cl_ (Kd.C_below HR0_0.out HB.out)); (case side2 => exact HC0_0.out); rintro e w23 ⟨v579, rfl, ho0, hb⟩; refine ⟨_, rfl, ?_⟩; have HO580 := a_ (Kd.R_lower ho0 (below_size (bl_2 HB GE576 GE577))); replace BK576 := bB_ BK576 hb; replace BK577 := bB_ BK577 hb; replace HB := hB_ (bl_2 HB GE576 GE577) hb; (try clear hb); (try clear ho0)) | ((with_reducible refine gd_ 5 ?_); refine bx_ 5 #[.slice none 0 0, .bool false, .int .i64 0] 24 ?_; intro gb583 hg w24 hbox hb; replace HO580 := a_ (Kd.R_below (by refine rq_ ?_; exact HO580.out) hb); have BK583 := a_ (hbox); have GW583 := a_ (bs_2 hg HB GE576 GE577); have GE583 := a_ (bs_2 hg HB GE576 GE577); replace HB := hB_ (bl_2 HB GE576 GE577) hb; have NB576_583 := nB_ hg BK576; have NB583_576 := nC_ hg BK576; replace BK576 := bB_ BK576 hb; have NB577_583 := nB_ hg BK577; have NB583_577 := nC_ hg BK577; replace BK577 := bB_ BK577 hb; clear hb hbox hg; obtain ⟨Ao25, co25, eo25⟩ := Kd.R_slice HO580.out; subst eo25; have hnb26 := NB583_576.out; have hnc26 := NB576_583.out; have hnb27 := NB583_577.out; have hnc27 := NB577_583.out; obtain ⟨hcz28_0, hcz28_1, hcz28_2, hfz28_0, hfz28_1, hfz28_2⟩ := c3_ BK583) | ((with_reducible refine gk_ 15 ?_); refine gl_ (some 18) Try.func15 #[.agg #[.slice Ao25 t578.length co25, .bool t581, .int .i64 t582]] ?_; (with_reducible refine (hard_Load.calls k _ _ t578 t581 t582 t584 t585 t586 _ ?side1 ?side2 A4.out).mono ?_); (case side1 => refine (Kd.R_reads' (e := 71) (base := w.heap.size) (ok := fun k_ => True) (n := t578.length) (c := co25) ?_).2.2; exact (by refine rq_ ?_; exact (Kd.R_mono (Kd.R_far (p := ⟨gb583, 2, none⟩) (Kd.R_far (p := ⟨gb583, 1, none⟩) (Kd.R_far (p := ⟨gb583, 0, none⟩) (Kd.R_types HO580.out BK583.out (by decide)) (fun _ hk => hk.2) (.slice Ao25 t578.length co25)) (fun _ hk => hk.2) (.bool t581)) (fun _ hk => hk.2) (.int .i64 t582)) (fun _ h_ => h_.1)))); (case side2 => exact (Kd.R_reads' HO580.out).2.1); rintro e w29 ⟨rfl, hb⟩; refine ⟨_, rfl, ?_⟩; replace HO580 := a_ (Kd.R_below (by refine rq_ ?_; exact (Kd.R_mono (Kd.R_far (p := ⟨gb583, 2, none⟩) (Kd.R_far (p := ⟨gb583, 1, none⟩) (Kd.R_far (p := ⟨gb583, 0, none⟩) (Kd.R_types HO580.out BK583.out (by decide)) (fun _ hk => hk.2) (.slice Ao25 t578.length co25)) (fun _ hk => hk.2) (.bool t581)) (fun _ hk => hk.2) (.int .i64 t582)) (fun _ h_ => h_.1))) hb); replace BK576 := a_ (blk_below (g := gb576) (o := .cells #[.slice A0_0 l0_0.length c0_0, .bool a0_1, .int .i64 a0_2] 24 (0, 0)) (bp_1 BK576 NB576_583) hb); replace BK577 := a_ (blk_below (g := gb577) (o := .cells #[.int .u64 a1_0, .int .i64 a1_1] 27 (0, 0)) (bp_1 BK577 NB577_583) hb); replace BK583 := a_ (blk_below (g := gb583) (o := .cells #[.slice Ao25 t578.length co25, .bool t581, .int .i64 t582] 24 (0, 0)) (bp_0 BK583) hb); replace HB := hB_ (bl_3 HB GE576 GE577 GE583) hb; (try clear hb)) | ((with_reducible refine gd_ 6 ?_); refine bx_ 6 #[.int .u64 0, .int .i64 0] 27 ?_; intro gb587 hg w30 hbox hb; replace HO580 := a_ (Kd.R_below (by refine rq_ ?_; exact HO580.out) hb); have BK587 := a_ (hbox); have GW587 := a_ (bs_3 hg HB GE576 GE577 GE583); have GE587 := a_ (bs_3 hg HB GE576 GE577 GE583); replace HB := hB_ (bl_3 HB GE576 GE577 GE583) hb; have NB576_587 := nB_ hg BK576; have NB587_576 := nC_ hg BK576; replace BK576 := bB_ BK576 hb; have NB577_587 := nB_ hg BK577; have NB587_577 := nC_ hg BK577; replace BK577 := bB_ BK577 hb; have NB583_587 := nB_ hg BK583; have NB587_583 := nC_ hg BK583; replace BK583 := bB_ BK583 hb; clear hb hbox hg; have hnb31 := NB587_576.out; have hnc31 := NB576_587.out; have hnb32 := NB587_577.out; have hnc32 := NB577_587.out; have hnb33 := NB587_583.out; have hnc33 := NB583_587.out; obtain ⟨hcz34_0, hcz34_1, hfz34_0, hfz34_1⟩ := c2_ BK587; obtain ⟨hcz35_0, hcz35_1, hcz35_2, hfz35_0, hfz35_1, hfz35_2⟩ := c3_ BK576) | ((with_reducible refine gk_ 16 ?_); refine gl_ (some 23) Try.func16 #[.agg #[.slice A0_0 l0_0.length c0_0, .bool a0_1, .int .i64 a0_2]] ?_; (with_reducible refine (gafferref04_Load.calls k _ _ l0_0 a0_1 a0_2 t588 t589 t590 _ ?side1 ?side2 A5.out).mono ?_); (case side1 => exact Kd.C_below HR0_0.out (bl_4 HB GE576 GE577 GE583 GE587)); (case side2 => exact HC0_0.out); rintro e w36 ⟨rfl, hb⟩; refine ⟨_, rfl, ?_⟩; replace HO580 := a_ (Kd.R_below (by refine rq_ ?_; exact (Kd.R_mono (Kd.R_far (p := ⟨gb587, 1, none⟩) (Kd.R_far (p := ⟨gb587, 0, none⟩) (Kd.R_types HO580.out BK587.out (by decide)) (fun _ hk => hk.2) (.int .u64 t584)) (fun _ hk => hk.2) (.int .i64 t585)) (fun _ h_ => h_.1))) hb); replace BK576 := a_ (blk_below (g := gb576) (o := .cells #[.slice A0_0 l0_0.length c0_0, .bool a0_1, .int .i64 a0_2] 24 (0, 0)) (bp_1 BK576 NB576_587) hb); replace BK577 := a_ (blk_below (g := gb577) (o := .cells #[.int .u64 a1_0, .int .i64 a1_1] 27 (0, 0)) (bp_1 BK577 NB577_587) hb); replace BK583 := a_ (blk_below (g := gb583) (o := .cells #[.slice Ao25 t578.length co25, .bool t581, .int .i64 t582] 24 (0, 0)) (bp_1 BK583 NB583_587) hb); replace BK587 := a_ (blk_below (g := gb587) (o := .cells #[.int .u64 t584, .int .i64 t585] 27 (0, 0)) (bp_0 BK587) hb); replace HB := hB_ (bl_4 HB GE576 GE577 GE583 GE587) hb; (try clear hb)) | ((with_reducible refine gd_ 8 ?_); refine bx_ 8 #[.int .u64 0, .int .i64 0] 27 ?_; intro gb591 hg w37 hbox hb; replace HO580 := a_ (Kd.R_below (by refine rq_ ?_; exact HO580.out) hb); have BK591 := a_ (hbox); have GW591 := a_ (bs_4 hg HB GE576 GE577 GE583 GE587); have GE591 := a_ (bs_4 hg HB GE576 GE577 GE583 GE587); replace HB := hB_ (bl_4 HB GE576 GE577 GE583 GE587) hb; have NB576_591 := nB_ hg BK576; have NB591_576 := nC_ hg BK576; replace BK576 := bB_ BK576 hb; have NB577_591 := nB_ hg BK577; have NB591_577 := nC_ hg BK577; replace BK577 := bB_ BK577 hb; have NB583_591 := nB_ hg BK583; have NB591_583 := nC_ hg BK583; replace BK583 := bB_ BK583 hb; have NB587_591 := nB_ hg BK587; have NB591_587 := nC_ hg BK587; replace BK587 := bB_ BK587 hb; clear hb hbox hg; have hnb38 := NB591_576.out; have hnc38 := NB576_591.out; have hnb39 := NB591_577.out; have hnc39 := NB577_591.out; have hnb40 := NB591_583.out; have hnc40 := NB583_591.out; have hnb41 := NB591_587.out; have hnc41 := NB587_591.out; obtain ⟨hcz42_0, hcz42_1, hfz42_0, hfz42_1⟩ := c2_ BK591; obtain ⟨hcz43_0, hcz43_1, hcz43_2, hfz43_0, hfz43_1, hfz43_2⟩ := c3_ BK583; obtain ⟨hcz44_0, hcz44_1, hfz44_0, hfz44_1⟩ := c2_ BK577) | ((with_reducible refine gk_ 17 ?_); refine gl_ (some 29) Try.func17 #[.agg #[.slice Ao25 t578.length co25, .bool t581, .int .i64 t582], .agg #[.int .u64 a1_0, .int .i64 a1_1]] ?_; (with_reducible refine (hard_Save.calls k _ _ t578 t581 t582 a1_0 a1_1 t592 t595 t596 t597 _ ?side1 ?side2 A6.out).mono ?_); (case side1 => refine (Kd.R_reads' (e := 71) (base := w.heap.size) (ok := fun k_ => True) (n := t578.length) (c := co25) ?_).2.2; exact (by refine rq_ ?_; exact (Kd.R_mono (Kd.R_far (p := ⟨gb591, 1, none⟩) (Kd.R_far (p := ⟨gb591, 0, none⟩) (Kd.R_types HO580.out BK591.out (by decide)) (fun _ hk => hk.2) (.int .u64 t588)) (fun _ hk => hk.2) (.int .i64 t589)) (fun _ h_ => h_.1)))); (case side2 => exact (Kd.R_reads' HO580.out).2.1); rintro e w45 ⟨v593, rfl, ho0, hb⟩; refine ⟨_, rfl, ?_⟩; have HO594 := a_ (Kd.R_lower (Kd.R_new' ho0 (Kd.R_lt (by refine rq_ ?_; exact (Kd.R_mono (Kd.R_far (p := ⟨gb591, 1, none⟩) (Kd.R_far (p := ⟨gb591, 0, none⟩) (Kd.R_types HO580.out BK591.out (by decide)) (fun _ hk => hk.2) (.int .u64 t588)) (fun _ hk => hk.2) (.int .i64 t589)) (fun _ h_ => h_.1))))) (below_size (bl_5 HB GE576 GE577 GE583 GE587 GE591))); replace HO580 := a_ (Kd.R_elder' (by refine rq_ ?_; exact (Kd.R_mono (Kd.R_far (p := ⟨gb591, 1, none⟩) (Kd.R_far (p := ⟨gb591, 0, none⟩) (Kd.R_types HO580.out BK591.out (by decide)) (fun _ hk => hk.2) (.int .u64 t588)) (fun _ hk => hk.2) (.int .i64 t589)) (fun _ h_ => h_.1))) (Kd.R_base ho0) hb); replace BK576 := a_ (blk_below (g := gb576) (o := .cells #[.slice A0_0 l0_0.length c0_0, .bool a0_1, .int .i64 a0_2] 24 (0, 0)) (bp_1 BK576 NB576_591) hb); replace BK577 := a_ (blk_below (g := gb577) (o := .cells #[.int .u64 a1_0, .int .i64 a1_1] 27 (0, 0)) (bp_1 BK577 NB577_591) hb); replace BK583 := a_ (blk_below (g := gb583) (o := .cells #[.slice Ao25 t578.length co25, .bool t581, .int .i64 t582] 24 (0, 0)) (bp_1 BK583 NB583_591) hb); replace BK587 := a_ (blk_below (g := gb587) (o := .cells #[.int .u64 t584, .int .i64 t585] 27 (0, 0)) (bp_1 BK587 NB587_591) hb); replace BK591 := a_ (blk_below (g := gb591) (o := .cells #[.int .u64 t588, .int .i64 t589] 27 (0, 0)) (bp_0 BK591) hb); replace HB := hB_ (bl_5 HB GE576 GE577 GE583 GE587 GE591) hb; (try clear hb); (try clear ho0)) | ((with_reducible refine gd_ 10 ?_); refine bx_ 10 #[.slice none 0 0, .bool false, .int .i64 0] 24 ?_; intro gb598 hg w46 hbox hb; replace HO580 := a_ (Kd.R_below (by refine rq_ ?_; exact HO580.out) hb); replace HO594 := a_ (Kd.R_below (by refine rq_ ?_; exact HO594.out) hb); have BK598 := a_ (hbox); have GW598 := a_ (bs_5 hg HB GE576 GE577 GE583 GE587 GE591); have GE598 := a_ (bs_5 hg HB GE576 GE577 GE583 GE587 GE591); replace HB := hB_ (bl_5 HB GE576 GE577 GE583 GE587 GE591) hb; have NB576_598 := nB_ hg BK576; have NB598_576 := nC_ hg BK576; replace BK576 := bB_ BK576 hb; have NB577_598 := nB_ hg BK577; have NB598_577 := nC_ hg BK577; replace BK577 := bB_ BK577 hb; have NB583_598 := nB_ hg BK583; have NB598_583 := nC_ hg BK583; replace BK583 := bB_ BK583 hb; have NB587_598 := nB_ hg BK587; have NB598_587 := nC_ hg BK587; replace BK587 := bB_ BK587 hb; have NB591_598 := nB_ hg BK591; have NB598_591 := nC_ hg BK591; replace BK591 := bB_ BK591 hb; clear hb hbox hg; obtain ⟨Ao47, co47, eo47⟩ := Kd.R_slice HO594.out; subst eo47; have hnb48 := NB598_576.out; have hnc48 := NB576_598.out; have hnb49 := NB598_577.out; have hnc49 := NB577_598.out; have hnb50 := NB598_583.out; have hnc50 := NB583_598.out; have hnb51 := NB598_587.out; have hnc51 := NB587_598.out; have hnb52 := NB598_591.out; have hnc52 := NB591_598.out; obtain ⟨hcz53_0, hcz53_1, hcz53_2, hfz53_0, hfz53_1, hfz53_2⟩ := c3_ BK598) | ((with_reducible refine gate_store (t := 24) (p := 10) rfl ?_); refine store_event (t := 24) (p := 10) (v := ?vo_w54) (w1 := (((w46.setCell ⟨gb598, 0, none⟩ (.slice Ao47 t592.length co47)).setCell ⟨gb598, 1, none⟩ (.bool t595)).setCell ⟨gb598, 2, none⟩ (.int .i64 t596))) ?hg ?ho ?hn ?hr ?_; (case ho => rfl); (case hg => rfl); (case hn => rfl); (case hr => first | (go_simp; done) | (go_simp; rfl)); intro w54 hw; have n0_ : Aside0 (Kd.R k71 71 w54 w.heap.size (fun k_ => some k_ ≠ (.slice Ao47 t592.length co47 : Value).ownBlock) (.slice Ao25 t578.length co25) t578) := ⟨(by rw [hw]; exact (by refine rq_ ?_; exact Kd.R_mono (Kd.R_far (p := ⟨gb598, 2, none⟩) (Kd.R_far (p := ⟨gb598, 1, none⟩) (Kd.R_far (p := ⟨gb598, 0, none⟩) (Kd.R_types HO580.out BK598.out (by decide)) (fun _ hk => hk.2) (.slice Ao47 t592.length co47)) (fun _ hk => hk.2) (.bool t595)) (fun _ hk => hk.2) (.int .i64 t596)) (fun _ hk => hk.1.2)))⟩; have n1_ : Aside0 (Kd.R k71 71 w54 w.heap.size (fun k_ => some k_ ≠ (.slice Ao25 t578.length co25 : Value).ownBlock) (.slice Ao47 t592.length co47) t592) := ⟨(by rw [hw]; exact (by refine rq_ ?_; exact Kd.R_mono (Kd.R_far (p := ⟨gb598, 2, none⟩) (Kd.R_far (p := ⟨gb598, 1, none⟩) (Kd.R_far (p := ⟨gb598, 0, none⟩) (Kd.R_types HO594.out BK598.out (by decide)) (fun _ hk => hk.2) (.slice Ao47 t592.length co47)) (fun _ hk => hk.2) (.bool t595)) (fun _ hk => hk.2) (.int .i64 t596)) (fun _ hk => hk.1.2)))⟩; have n2_ : Aside0 (w54.heap[gb576]? = some (.cells #[.slice A0_0 l0_0.length c0_0, .bool a0_1, .int .i64 a0_2] 24 (0, 0))) := ⟨(by rw [hw]; exact (bp_1 BK576 NB576_598))⟩; have n3_ : Aside0 (w54.heap[gb577]? = some (.cells #[.int .u64 a1_0, .int .i64 a1_1] 27 (0, 0))) := ⟨(by rw [hw]; exact (bp_1 BK577 NB577_598))⟩; have n4_ : Aside0 (w54.heap[gb583]? = some (.cells #[.slice Ao25 t578.length co25, .bool t581, .int .i64 t582] 24 (0, 0))) := ⟨(by rw [hw]; exact (bp_1 BK583 NB583_598))⟩; have n5_ : Aside0 (w54.heap[gb587]? = some (.cells #[.int .u64 t584, .int .i64 t585] 27 (0, 0))) := ⟨(by rw [hw]; exact (bp_1 BK587 NB587_598))⟩; have n6_ : Aside0 (w54.heap[gb591]? = some (.cells #[.int .u64 t588, .int .i64 t589] 27 (0, 0))) := ⟨(by rw [hw]; exact (bp_1 BK591 NB591_598))⟩; have n7_ : Aside0 (w54.heap[gb598]? = some (.cells #[.slice Ao47 t592.length co47, .bool t595, .int .i64 t596] 24 (0, 0))) := ⟨(by rw [hw]; exact (bp_0 BK598))⟩; have n8_ : Aside0 (Below w.heap.size w w54) := ⟨(by rw [hw]; exact (bl_6 HB GE576 GE577 GE583 GE587 GE591 GE598))⟩; clear hw; clear HO580; clear HO594; clear BK576; clear BK577; clear BK583; clear BK587; clear BK591; clear BK598; clear HB; have HO580 := n0_; have HO594 := n1_; have BK576 := n2_; have BK577 := n3_; have BK583 := n4_; have BK587 := n5_; have BK591 := n6_; have BK598 := n7_; have HB := n8_; clear n0_ n1_ n2_ n3_ n4_ n5_ n6_ n7_ n8_; obtain ⟨hcz55_0, hcz55_1, hcz55_2, hfz55_0, hfz55_1, hfz55_2⟩ := c3_ BK576; obtain ⟨hcz56_0, hcz56_1, hfz56_0, hfz56_1⟩ := c2_ BK577) | ((with_reducible refine gk_ 18 ?_); refine gl_ (some 35) Try.func18 #[.agg #[.slice A0_0 l0_0.length c0_0, .bool a0_1, .int .i64 a0_2], .agg #[.int .u64 a1_0, .int .i64 a1_1]] ?_; (with_reducible refine (gafferref04_Save.calls k (fun k_ => k_ < w.heap.size) _ _ l0_0 a0_1 a0_2 a1_0 a1_1 t599 t602 t603 t604 _ ?side1 A7.out).mono ?_); (case side1 => exact Kd.V_mk HC0_0.out (Kd.F_below (Kd.C_F k71_heap HR0_0.out) (bl_6 HB GE576 GE577 GE583 GE587 GE591 GE598))); rintro e w57 ⟨v600, rfl, ho0, hb⟩; refine ⟨_, rfl, ?_⟩; have HO601 := a_ (Kd.V_lower (Kd.V_mono (ok' := fun k_ => some k_ ≠ (.slice Ao25 t578.length co25 : Value).ownBlock ∧ some k_ ≠ (.slice Ao47 t592.length co47 : Value).ownBlock ∧ k_ ≠ gb576 ∧ k_ ≠ gb577 ∧ k_ ≠ gb583 ∧ k_ ≠ gb587 ∧ k_ ≠ gb591 ∧ k_ ≠ gb598) ho0 (fun k_ hk_ => ⟨Or.elim hk_ (fun hs_ => fun e_ => Nat.not_le.2 hs_ (Kd.R_base HO580.out k_ e_.symm)) (fun hn_ => (Kd.fresh' (Kd.R_lt (by refine rq_ ?_; exact HO580.out)) k_ hn_)), Or.elim hk_ (fun hs_ => fun e_ => Nat.not_le.2 hs_ (Kd.R_base HO594.out k_ e_.symm)) (fun hn_ => (Kd.fresh' (Kd.R_lt (by refine rq_ ?_; exact HO594.out)) k_ hn_)), Or.elim hk_ (fun hs_ => fun e_ => Nat.not_le.2 hs_ (by rw [e_]; exact GW576.out)) (fun hn_ => (Kd.freshB (g := gb576) (o := .cells #[.slice A0_0 l0_0.length c0_0, .bool a0_1, .int .i64 a0_2] 24 (0, 0)) (bk_ BK576) k_ hn_)), Or.elim hk_ (fun hs_ => fun e_ => Nat.not_le.2 hs_ (by rw [e_]; exact GW577.out)) (fun hn_ => (Kd.freshB (g := gb577) (o := .cells #[.int .u64 a1_0, .int .i64 a1_1] 27 (0, 0)) (bk_ BK577) k_ hn_)), Or.elim hk_ (fun hs_ => fun e_ => Nat.not_le.2 hs_ (by rw [e_]; exact GW583.out)) (fun hn_ => (Kd.freshB (g := gb583) (o := .cells #[.slice Ao25 t578.length co25, .bool t581, .int .i64 t582] 24 (0, 0)) (bk_ BK583) k_ hn_)), Or.elim hk_ (fun hs_ => fun e_ => Nat.not_le.2 hs_ (by rw [e_]; exact GW587.out)) (fun hn_ => (Kd.freshB (g := gb587) (o := .cells #[.int .u64 t584, .int .i64 t585] 27 (0, 0)) (bk_ BK587) k_ hn_)), Or.elim hk_ (fun hs_ => fun e_ => Nat.not_le.2 hs_ (by rw [e_]; exact GW591.out)) (fun hn_ => (Kd.freshB (g := gb591) (o := .cells #[.int .u64 t588, .int .i64 t589] 27 (0, 0)) (bk_ BK591) k_ hn_)), Or.elim hk_ (fun hs_ => fun e_ => Nat.not_le.2 hs_ (by rw [e_]; exact GW598.out)) (fun hn_ => (Kd.freshB (g := gb598) (o := .cells #[.slice Ao47 t592.length co47, .bool t595, .int .i64 t596] 24 (0, 0)) (bk_ BK598) k_ hn_))⟩)) (below_size (bl_6 HB GE576 GE577 GE583 GE587 GE591 GE598))); replace HO580 := a_ (Kd.R_below (by refine rq_ ?_; exact HO580.out) hb); replace HO594 := a_ (Kd.R_below (by refine rq_ ?_; exact HO594.out) hb); replace BK576 := bB_ BK576 hb; replace BK577 := bB_ BK577 hb; replace BK583 := bB_ BK583 hb; replace BK587 := bB_ BK587 hb; replace BK591 := bB_ BK591 hb; replace BK598 := bB_ BK598 hb; replace HB := hB_ (bl_6 HB GE576 GE577 GE583 GE587 GE591 GE598) hb; (try clear hb); (try clear ho0)) | ((with_reducible refine gd_ 12 ?_); refine bx_ 12 #[.slice none 0 0, .bool false, .int .i64 0] 24 ?_; intro gb605 hg w58 hbox hb; replace HO580 := a_ (Kd.R_below (by refine rq_ ?_; exact HO580.out) hb); replace HO594 := a_ (Kd.R_below (by refine rq_ ?_; exact HO594.out) hb); replace HO601 := a_ (Kd.V_below (Kd.V_elderB (by refine vq_ ?_; exact HO601.out) gb605 (Nat.le_of_eq hg.symm)) hb); have BK605 := a_ (hbox); have GE605 := a_ (bs_6 hg HB GE576 GE577 GE583 GE587 GE591 GE598); replace HB := hB_ (bl_6 HB GE576 GE577 GE583 GE587 GE591 GE598) hb; have NB576_605 := nB_ hg BK576; have NB605_576 := nC_ hg BK576; replace BK576 := bB_ BK576 hb; have NB577_605 := nB_ hg BK577; have NB605_577 := nC_ hg BK577; replace BK577 := bB_ BK577 hb; have NB583_605 := nB_ hg BK583; have NB605_583 := nC_ hg BK583; replace BK583 := bB_ BK583 hb; have NB587_605 := nB_ hg BK587; have NB605_587 := nC_ hg BK587; replace BK587 := bB_ BK587 hb; have NB591_605 := nB_ hg BK591; have NB605_591 := nC_ hg BK591; replace BK591 := bB_ BK591 hb; have NB598_605 := nB_ hg BK598; have NB605_598 := nC_ hg BK598; replace BK598 := bB_ BK598 hb; clear hb hbox hg; obtain ⟨Ao59, co59, eo59⟩ := Kd.V_slice HO601.out; subst eo59; have hnb60 := NB605_576.out; have hnc60 := NB576_605.out; have hnb61 := NB605_577.out; have hnc61 := NB577_605.out; have hnb62 := NB605_583.out; have hnc62 := NB583_605.out; have hnb63 := NB605_587.out; have hnc63 := NB587_605.out; have hnb64 := NB605_591.out; have hnc64 := NB591_605.out; have hnb65 := NB605_598.out; have hnc65 := NB598_605.out; obtain ⟨hcz66_0, hcz66_1, hcz66_2, hfz66_0, hfz66_1, hfz66_2⟩ := c3_ BK605))
 have n0_ : Aside0 (Kd.R k71 71 (((w58.setCell ⟨gb605, 0, none⟩ (.slice Ao59 t599.length co59)).setCell ⟨gb605, 1, none⟩ (.bool t602)).setCell ⟨gb605, 2, none⟩ (.int .i64 t603)) w.heap.size (fun k_ => some k_ ≠ (.slice Ao47 t592.length co47 : Value).ownBlock) (.slice Ao25 t578.length co25) t578) := ⟨by refine rq_ ?_; exact Kd.R_mono (Kd.R_far (p := ⟨gb605, 2, none⟩) (Kd.R_far (p := ⟨gb605, 1, none⟩) (Kd.R_far (p := ⟨gb605, 0, none⟩) (Kd.R_types HO580.out BK605.out (by decide)) (fun _ hk => hk.2) (.slice Ao59 t599.length co59)) (fun _ hk => hk.2) (.bool t602)) (fun _ hk => hk.2) (.int .i64 t603)) (fun _ hk => hk.1)⟩
 have n1_ : Aside0 (Kd.R k71 71 (((w58.setCell ⟨gb605, 0, none⟩ (.slice Ao59 t599.length co59)).setCell ⟨gb605, 1, none⟩ (.bool t602)).setCell ⟨gb605, 2, none⟩ (.int .i64 t603)) w.heap.size (fun k_ => some k_ ≠ (.slice Ao25 t578.length co25 : Value).ownBlock) (.slice Ao47 t592.length co47) t592) := ⟨by refine rq_ ?_; exact Kd.R_mono (Kd.R_far (p := ⟨gb605, 2, none⟩) (Kd.R_far (p := ⟨gb605, 1, none⟩) (Kd.R_far (p := ⟨gb605, 0, none⟩) (Kd.R_types HO594.out BK605.out (by decide)) (fun _ hk => hk.2) (.slice Ao59 t599.length co59)) (fun _ hk => hk.2) (.bool t602)) (fun _ hk => hk.2) (.int .i64 t603)) (fun _ hk => hk.1)⟩
 have n2_ : Aside0 (Kd.V k71 71 (((w58.setCell ⟨gb605, 0, none⟩ (.slice Ao59 t599.length co59)).setCell ⟨gb605, 1, none⟩ (.bool t602)).setCell ⟨gb605, 2, none⟩ (.int .i64 t603)) w.heap.size (fun k_ => some k_ ≠ (.slice Ao25 t578.length co25 : Value).ownBlock ∧ some k_ ≠ (.slice Ao47 t592.length co47 : Value).ownBlock ∧ k_ ≠ gb576 ∧ k_ ≠ gb577 ∧ k_ ≠ gb583 ∧ k_ ≠ gb587 ∧ k_ ≠ gb591 ∧ k_ ≠ gb598 ∧ k_ ≠ gb605) (.slice Ao59 t599.length co59) t599) := ⟨by refine vq_ ?_; exact Kd.V_mono (Kd.V_far (p := ⟨gb605, 2, none⟩) (Kd.V_far (p := ⟨gb605, 1, none⟩) (Kd.V_far (p := ⟨gb605, 0, none⟩) (Kd.V_mono HO601.out (fun k_ hk => (⟨hk, hk.2⟩ : _ ∧ k_ ≠ gb605))) (fun _ hk => hk.2) (.slice Ao59 t599.length co59)) (fun _ hk => hk.2) (.bool t602)) (fun _ hk => hk.2) (.int .i64 t603)) (fun _ hk => ⟨hk.1.1.1, ⟨hk.1.1.2.1, ⟨hk.1.1.2.2.1, ⟨hk.1.1.2.2.2.1, ⟨hk.1.1.2.2.2.2.1, ⟨hk.1.1.2.2.2.2.2.1, ⟨hk.1.1.2.2.2.2.2.2.1, ⟨hk.1.1.2.2.2.2.2.2.2, hk.1.2⟩⟩⟩⟩⟩⟩⟩⟩)⟩
 have n3_ : Aside0 ((((w58.setCell ⟨gb605, 0, none⟩ (.slice Ao59 t599.length co59)).setCell ⟨gb605, 1, none⟩ (.bool t602)).setCell ⟨gb605, 2, none⟩ (.int .i64 t603)).heap[gb576]? = some (.cells #[.slice A0_0 l0_0.length c0_0, .bool a0_1, .int .i64 a0_2] 24 (0, 0))) := ⟨by refine bq_ ?_; refine blk_far ?_ NB576_605.out _; refine bq_ ?_; refine blk_far ?_ NB576_605.out _; refine bq_ ?_; refine blk_far ?_ NB576_605.out _; refine bq_ ?_; exact BK576.out⟩
 have n4_ : Aside0 ((((w58.setCell ⟨gb605, 0, none⟩ (.slice Ao59 t599.length co59)).setCell ⟨gb605, 1, none⟩ (.bool t602)).setCell ⟨gb605, 2, none⟩ (.int .i64 t603)).heap[gb577]? = some (.cells #[.int .u64 a1_0, .int .i64 a1_1] 27 (0, 0))) := ⟨by refine bq_ ?_; refine blk_far ?_ NB577_605.out _; refine bq_ ?_; refine blk_far ?_ NB577_605.out _; refine bq_ ?_; refine blk_far ?_ NB577_605.out _; refine bq_ ?_; exact BK577.out⟩
 have n5_ : Aside0 ((((w58.setCell ⟨gb605, 0, none⟩ (.slice Ao59 t599.length co59)).setCell ⟨gb605, 1, none⟩ (.bool t602)).setCell ⟨gb605, 2, none⟩ (.int .i64 t603)).heap[gb583]? = some (.cells #[.slice Ao25 t578.length co25, .bool t581, .int .i64 t582] 24 (0, 0))) := ⟨by refine bq_ ?_; refine blk_far ?_ NB583_605.out _; refine bq_ ?_; refine blk_far ?_ NB583_605.out _; refine bq_ ?_; refine blk_far ?_ NB583_605.out _; refine bq_ ?_; exact BK583.out⟩
 have n6_ : Aside0 ((((w58.setCell ⟨gb605, 0, none⟩ (.slice Ao59 t599.length co59)).setCell ⟨gb605, 1, none⟩ (.bool t602)).setCell ⟨gb605, 2, none⟩ (.int .i64 t603)).heap[gb587]? = some (.cells #[.int .u64 t584, .int .i64 t585] 27 (0, 0))) := ⟨by refine bq_ ?_; refine blk_far ?_ NB587_605.out _; refine bq_ ?_; refine blk_far ?_ NB587_605.out _; refine bq_ ?_; refine blk_far ?_ NB587_605.out _; refine bq_ ?_; exact BK587.out⟩
 have n7_ : Aside0 ((((w58.setCell ⟨gb605, 0, none⟩ (.slice Ao59 t599.length co59)).setCell ⟨gb605, 1, none⟩ (.bool t602)).setCell ⟨gb605, 2, none⟩ (.int .i64 t603)).heap[gb591]? = some (.cells #[.int .u64 t588, .int .i64 t589] 27 (0, 0))) := ⟨by refine bq_ ?_; refine blk_far ?_ NB591_605.out _; refine bq_ ?_; refine blk_far ?_ NB591_605.out _; refine bq_ ?_; refine blk_far ?_ NB591_605.out _; refine bq_ ?_; exact BK591.out⟩
 have n8_ : Aside0 ((((w58.setCell ⟨gb605, 0, none⟩ (.slice Ao59 t599.length co59)).setCell ⟨gb605, 1, none⟩ (.bool t602)).setCell ⟨gb605, 2, none⟩ (.int .i64 t603)).heap[gb598]? = some (.cells #[.slice Ao47 t592.length co47, .bool t595, .int .i64 t596] 24 (0, 0))) := ⟨by refine bq_ ?_; refine blk_far ?_ NB598_605.out _; refine bq_ ?_; refine blk_far ?_ NB598_605.out _; refine bq_ ?_; refine blk_far ?_ NB598_605.out _; refine bq_ ?_; exact BK598.out⟩
 have n9_ : Aside0 ((((w58.setCell ⟨gb605, 0, none⟩ (.slice Ao59 t599.length co59)).setCell ⟨gb605, 1, none⟩ (.bool t602)).setCell ⟨gb605, 2, none⟩ (.int .i64 t603)).heap[gb605]? = some (.cells #[.slice Ao59 t599.length co59, .bool t602, .int .i64 t603] 24 (0, 0))) := ⟨by refine bq_ ?_; refine blk_put (cs := #[.slice Ao59 t599.length co59, .bool t602, .int .i64 0]) ?_ 2 _ rfl; refine bq_ ?_; refine blk_put (cs := #[.slice Ao59 t599.length co59, .bool false, .int .i64 0]) ?_ 1 _ rfl; refine bq_ ?_; refine blk_put (cs := #[.slice none 0 0, .bool false, .int .i64 0]) ?_ 0 _ rfl; refine bq_ ?_; exact BK605.out⟩
 have n10_ : Aside0 (Below w.heap.size w (((w58.setCell ⟨gb605, 0, none⟩ (.slice Ao59 t599.length co59)).setCell ⟨gb605, 1, none⟩ (.bool t602)).setCell ⟨gb605, 2, none⟩ (.int .i64 t603))) := ⟨by repeat (first | (with_reducible first | exact HB.out | apply below_alloc | apply pw_below_drewN | apply below_drew1 | refine below_set ?_ GE576.out | refine below_set ?_ GE577.out | refine below_set ?_ GE583.out | refine below_set ?_ GE587.out | refine below_set ?_ GE591.out | refine below_set ?_ GE598.out | refine below_set ?_ GE605.out) | exact HB.out)⟩
 (try clear HO580)
 (try clear HO594)
 (try clear HO601)
 (try clear BK576)
 (try clear BK577)
 (try clear BK583)
 (try clear BK587)
 (try clear BK591)
 (try clear BK598)
 (try clear BK605)
 (try clear HB)
 generalize (((w58.setCell ⟨gb605, 0, none⟩ (.slice Ao59 t599.length co59)).setCell ⟨gb605, 1, none⟩ (.bool t602)).setCell ⟨gb605, 2, none⟩ (.int .i64 t603)) = w67 at n0_ n1_ n2_ n3_ n4_ n5_ n6_ n7_ n8_ n9_ n10_ ⊢
 have HO580 := n0_
 have HO594 := n1_
 have HO601 := n2_
 have BK576 := n3_
 have BK577 := n4_
 have BK583 := n5_
 have BK587 := n6_
 have BK591 := n7_
 have BK598 := n8_
 have BK605 := n9_
 have HB := n10_
 clear n0_ n1_ n2_ n3_ n4_ n5_ n6_ n7_ n8_ n9_ n10_
 have n0_ := a_ (Kd.R_drew HO580.out)
 have n1_ := a_ (Kd.R_drew HO594.out)
 have n2_ := a_ (Kd.V_drew HO601.out)
 have n3_ := a_ (blk_drew BK576.out)
 have n4_ := a_ (blk_drew BK577.out)
 have n5_ := a_ (blk_drew BK583.out)
 have n6_ := a_ (blk_drew BK587.out)
 have n7_ := a_ (blk_drew BK591.out)
 have n8_ := a_ (blk_drew BK598.out)
 have n9_ := a_ (blk_drew BK605.out)
 have n10_ := a_ (below_drew1 HB.out)
 clear HO580
 clear HO594
 clear HO601
 clear BK576
 clear BK577
 clear BK583
 clear BK587
 clear BK591
 clear BK598
 clear BK605
 clear HB
 have HO580 := n0_
 have HO594 := n1_
 have HO601 := n2_
 have BK576 := n3_
 have BK577 := n4_
 have BK583 := n5_
 have BK587 := n6_
 have BK591 := n7_
 have BK598 := n8_
 have BK605 := n9_
 have HB := n10_
 clear n0_ n1_ n2_ n3_ n4_ n5_ n6_ n7_ n8_ n9_ n10_
 refine start_ (n := 34) (S := fun w' => w'.cell? ⟨gb587, 0, none⟩ = some (.int .u64 t584) ∧ w'.cell? ⟨gb587, 1, none⟩ = some (.int .i64 t585) ∧ w'.cell? ⟨gb591, 0, none⟩ = some (.int .u64 t588) ∧ w'.cell? ⟨gb591, 1, none⟩ = some (.int .i64 t589) ∧ w'.cell? ⟨gb598, 0, none⟩ = some (.slice Ao47 t592.length co47) ∧ w'.cell? ⟨gb598, 1, none⟩ = some (.bool t595) ∧ w'.cell? ⟨gb598, 2, none⟩ = some (.int .i64 t596) ∧ w'.cell? ⟨gb605, 0, none⟩ = some (.slice Ao59 t599.length co59) ∧ w'.cell? ⟨gb605, 1, none⟩ = some (.bool t602) ∧ w'.cell? ⟨gb605, 2, none⟩ = some (.int .i64 t603) ∧ w'.cell? ⟨gb577, 0, none⟩ = some (.int .u64 a1_0) ∧ w'.cell? ⟨gb577, 1, none⟩ = some (.int .i64 a1_1) ∧ w'.cell? ⟨gb583, 0, none⟩ = some (.slice Ao25 t578.length co25) ∧ w'.cell? ⟨gb583, 1, none⟩ = some (.bool t581) ∧ w'.cell? ⟨gb583, 2, none⟩ = some (.int .i64 t582) ∧ w'.cell? ⟨gb576, 0, none⟩ = some (.slice A0_0 l0_0.length c0_0) ∧ w'.cell? ⟨gb576, 1, none⟩ = some (.bool a0_1) ∧ w'.cell? ⟨gb576, 2, none⟩ = some (.int .i64 a0_2)) (ds := []) #[false, false, false, false, false, false, false, false, false, false, false, false, false, false, false, false, false, false, false, false, false, false, false, false, false, false, false, false, false, false, false, false, false, false] (by kernel_rfl) rfl rfl ⟨(blk_cell BK587.out 0).trans rfl, (blk_cell BK587.out 1).trans rfl, (blk_cell BK591.out 0).trans rfl, (blk_cell BK591.out 1).trans rfl, (blk_cell BK598.out 0).trans rfl, (blk_cell BK598.out 1).trans rfl, (blk_cell BK598.out 2).trans rfl, (blk_cell BK605.out 0).trans rfl, (blk_cell BK605.out 1).trans rfl, (blk_cell BK605.out 2).trans rfl, (blk_cell BK577.out 0).trans rfl, (blk_cell BK577.out 1).trans rfl, (blk_cell BK583.out 0).trans rfl, (blk_cell BK583.out 1).trans rfl, (blk_cell BK583.out 2).trans rfl, (blk_cell BK576.out 0).trans rfl, (blk_cell BK576.out 1).trans rfl, (blk_cell BK576.out 2).trans rfl⟩ (fun hHeld => ?_); refine with_tabW gafferlaw04_HardDoes.tab6 gafferlaw04_HardDoes.bits6 (fun HT_ HW_ => ?_)
 generalize w67.drew = w68 at HO580 HO594 HO601 BK576 BK577 BK583 BK587 BK591 BK598 BK605 HB hHeld ⊢
 refine one_ (i := 0) (N := some 38) #[true, false, false, false, false, false, false, false, false, false, false, false, false, false, false, false, false, false, false, false, false, false, false, false, false, false, false, false, false, false, false, false, false, false] rfl rfl (one_of HT_.out (by kernel_rfl)) (by decide) (fun K hK => ?_)
 refine goes_ Try.func19 (by kernel_rfl) rfl #[] (by rfl) rfl rfl (ar_) ?_
 with_reducible refine (gafferlaw04_lives.calls k  true _ A8.out).mono ?_
 rintro e w69 ⟨rfl, hb⟩
 refine ⟨_, rfl, ?_⟩
 have n0_ := a_ (Kd.R_below (by refine rq_ ?_; exact HO580.out) hb)
 have n1_ := a_ (Kd.R_below (by refine rq_ ?_; exact HO594.out) hb)
 have n2_ := a_ (Kd.V_below (by refine vq_ ?_; exact HO601.out) hb)
 have n3_ := bB_ BK576 hb
 have n4_ := bB_ BK577 hb
 have n5_ := bB_ BK583 hb
 have n6_ := bB_ BK587 hb
 have n7_ := bB_ BK591 hb
 have n8_ := bB_ BK598 hb
 have n9_ := bB_ BK605 hb
 have n10_ := a_ (below_step (by repeat (first | (with_reducible first | exact HB.out | apply below_alloc | apply pw_below_drewN | apply below_drew1 | refine below_set ?_ GE576.out | refine below_set ?_ GE577.out | refine below_set ?_ GE583.out | refine below_set ?_ GE587.out | refine below_set ?_ GE591.out | refine below_set ?_ GE598.out | refine below_set ?_ GE605.out) | exact HB.out)) hb)
 clear HO580
 clear HO594
 clear HO601
 clear BK576
 clear BK577
 clear BK583
 clear BK587
 clear BK591
 clear BK598
 clear BK605
 clear HB
 have HO580 := n0_
 have HO594 := n1_
 have HO601 := n2_
 have BK576 := n3_
 have BK577 := n4_
 have BK583 := n5_
 have BK587 := n6_
 have BK591 := n7_
 have BK598 := n8_
 have BK605 := n9_
 have HB := n10_
 clear n0_ n1_ n2_ n3_ n4_ n5_ n6_ n7_ n8_ n9_ n10_
 (try clear hb)
 (try clear hb2)
 (try clear hk)
 (try clear hi)
 refine hK.out _ _ ⟨(blk_cell BK587.out 0).trans rfl, (blk_cell BK587.out 1).trans rfl, (blk_cell BK591.out 0).trans rfl, (blk_cell BK591.out 1).trans rfl, (blk_cell BK598.out 0).trans rfl, (blk_cell BK598.out 1).trans rfl, (blk_cell BK598.out 2).trans rfl, (blk_cell BK605.out 0).trans rfl, (blk_cell BK605.out 1).trans rfl, (blk_cell BK605.out 2).trans rfl, (blk_cell BK577.out 0).trans rfl, (blk_cell BK577.out 1).trans rfl, (blk_cell BK583.out 0).trans rfl, (blk_cell BK583.out 1).trans rfl, (blk_cell BK583.out 2).trans rfl, (blk_cell BK576.out 0).trans rfl, (blk_cell BK576.out 1).trans rfl, (blk_cell BK576.out 2).trans rfl⟩ (fun hHeld => ?_)
 clear hK K
 refine norm_ (a' := ?_) ?_ ?_
 rotate_left
 ·show Act.put _ (some 38) _ = _
  simp only [Act.put, List.setIfInBounds_toArray, List.set_cons_zero, List.set_cons_succ, i64_w, i32_w]
  rfl
 refine pu_ HT_ 1 (some 39) ?_
 refine take_ (i := 2) (N := some 40) (v := ?_) (a' := ?_) #[true, true, true, false, false, false, false, false, false, false, false, false, false, false, false, false, false, false, false, false, false, false, false, false, false, false, false, false, false, false, false, false, false, false] rfl rfl (take_ofW HT_.out HW_.out (by kernel_rfl)) (fun _ _ _ h => h) (Or.inl ⟨by rfl, ?_⟩) hHeld ?_ ?_
 rotate_left
 ·rintro w' ⟨s0, s1, s2, s3, s4, s5, s6, s7, s8, s9, s10, s11, s12, s13, s14, s15, s16, s17⟩
  go_simp
  with_reducible rfl
 rotate_left
 ·exact ap_
 refine take_ (i := 3) (N := some 41) (v := ?_) (a' := ?_) #[true, true, true, true, false, false, false, false, false, false, false, false, false, false, false, false, false, false, false, false, false, false, false, false, false, false, false, false, false, false, false, false, false, false] rfl rfl (take_ofW HT_.out HW_.out (by kernel_rfl)) (fun _ _ _ h => h) (Or.inl ⟨by rfl, ?_⟩) hHeld ?_ ?_
 rotate_left
 ·rintro w' ⟨s0, s1, s2, s3, s4, s5, s6, s7, s8, s9, s10, s11, s12, s13, s14, s15, s16, s17⟩
  go_simp
  with_reducible rfl
 rotate_left
 ·exact ap_
 refine pu_ HT_ 4 (some 42) ?_
 refine pu_ HT_ 5 (some 43) ?_
 refine pu_ HT_ 6 (some 44) ?_
 refine pu_ HT_ 7 (some 45) ?_
 refine pu_ HT_ 8 (some 46) ?_
 refine pu_ HT_ 9 (some 47) ?_
 refine pu_ HT_ 10 (some 48) ?_
 refine pu_ HT_ 11 (some 49) ?_
 refine take_ (i := 12) (N := some 50) (v := ?_) (a' := ?_) #[true, true, true, true, true, true, true, true, true, true, true, true, true, false, false, false, false, false, false, false, false, false, false, false, false, false, false, false, false, false, false, false, false, false] rfl rfl (take_ofW HT_.out HW_.out (by kernel_rfl)) (fun _ _ _ h => h) (Or.inl ⟨by rfl, ?_⟩) hHeld ?_ ?_
 rotate_left
 ·rintro w' ⟨s0, s1, s2, s3, s4, s5, s6, s7, s8, s9, s10, s11, s12, s13, s14, s15, s16, s17⟩
  go_simp
  with_reducible rfl
 rotate_left
 ·exact ap_
 refine take_ (i := 13) (N := some 51) (v := ?_) (a' := ?_) #[true, true, true, true, true, true, true, true, true, true, true, true, true, true, false, false, false, false, false, false, false, false, false, false, false, false, false, false, false, false, false, false, false, false] rfl rfl (take_ofW HT_.out HW_.out (by kernel_rfl)) (fun _ _ _ h => h) (Or.inl ⟨by rfl, ?_⟩) hHeld ?_ ?_
 rotate_left
 ·rintro w' ⟨s0, s1, s2, s3, s4, s5, s6, s7, s8, s9, s10, s11, s12, s13, s14, s15, s16, s17⟩
  go_simp
  with_reducible rfl
 rotate_left
 ·exact ap_
 refine one_ (i := 14) (N := some 52) #[true, true, true, true, true, true, true, true, true, true, true, true, true, true, true, false, false, false, false, false, false, false, false, false, false, false, false, false, false, false, false, false, false, false] rfl rfl (one_of HT_.out (by kernel_rfl)) (by decide) (fun K hK => ?_)
 refine goes_ Try.func20 (by kernel_rfl) rfl #[.agg #[.slice Ao47 t592.length co47, .bool t595, .int .i64 t596], .agg #[.slice Ao59 t599.length co59, .bool t602, .int .i64 t603]] (by rfl) rfl rfl (ar_) ?_
 with_reducible refine (gafferref02_Same.calls k _ _ t592 t595 t596 _ _ t599 t602 t603 true _ ?side1 ?side2 ?side3 ?side4 A12.out).mono ?_
 (case side1 => exact cl_ ((Kd.R_reads' HO594.out).2.2))
 (case side2 => exact (Kd.R_reads' HO594.out).2.1)
 (case side3 => exact cl_ ((Kd.V_reads' HO601.out).2.2))
 (case side4 => exact (Kd.V_reads' HO601.out).2.1)
 rintro e w70 ⟨rfl, hb⟩
 refine ⟨_, rfl, ?_⟩
 have n0_ := a_ (Kd.R_below (by refine rq_ ?_; exact HO580.out) hb)
 have n1_ := a_ (Kd.R_below (by refine rq_ ?_; exact HO594.out) hb)
 have n2_ := a_ (Kd.V_below (by refine vq_ ?_; exact HO601.out) hb)
 have n3_ := bB_ BK576 hb
 have n4_ := bB_ BK577 hb
 have n5_ := bB_ BK583 hb
 have n6_ := bB_ BK587 hb
 have n7_ := bB_ BK591 hb
 have n8_ := bB_ BK598 hb
 have n9_ := bB_ BK605 hb
 have n10_ := a_ (below_step (by repeat (first | (with_reducible first | exact HB.out | apply below_alloc | apply pw_below_drewN | apply below_drew1 | refine below_set ?_ GE576.out | refine below_set ?_ GE577.out | refine below_set ?_ GE583.out | refine below_set ?_ GE587.out | refine below_set ?_ GE591.out | refine below_set ?_ GE598.out | refine below_set ?_ GE605.out) | exact HB.out)) hb)
 clear HO580
 clear HO594
 clear HO601
 clear BK576
 clear BK577
 clear BK583
 clear BK587
 clear BK591
 clear BK598
 clear BK605
 clear HB
 have HO580 := n0_
 have HO594 := n1_
 have HO601 := n2_
 have BK576 := n3_
 have BK577 := n4_
 have BK583 := n5_
 have BK587 := n6_
 have BK591 := n7_
 have BK598 := n8_
 have BK605 := n9_
 have HB := n10_
 clear n0_ n1_ n2_ n3_ n4_ n5_ n6_ n7_ n8_ n9_ n10_
 (try clear hb)
 (try clear hb2)
 (try clear hk)
 (try clear hi)
 refine hK.out _ _ ⟨(blk_cell BK587.out 0).trans rfl, (blk_cell BK587.out 1).trans rfl, (blk_cell BK591.out 0).trans rfl, (blk_cell BK591.out 1).trans rfl, (blk_cell BK598.out 0).trans rfl, (blk_cell BK598.out 1).trans rfl, (blk_cell BK598.out 2).trans rfl, (blk_cell BK605.out 0).trans rfl, (blk_cell BK605.out 1).trans rfl, (blk_cell BK605.out 2).trans rfl, (blk_cell BK577.out 0).trans rfl, (blk_cell BK577.out 1).trans rfl, (blk_cell BK583.out 0).trans rfl, (blk_cell BK583.out 1).trans rfl, (blk_cell BK583.out 2).trans rfl, (blk_cell BK576.out 0).trans rfl, (blk_cell BK576.out 1).trans rfl, (blk_cell BK576.out 2).trans rfl⟩ (fun hHeld => ?_)
 clear hK K
 refine norm_ (a' := ?_) ?_ ?_
 rotate_left
 ·show Act.put _ (some 52) _ = _
  simp only [Act.put, List.setIfInBounds_toArray, List.set_cons_zero, List.set_cons_succ, i64_w, i32_w]
  rfl
 refine pu_ HT_ 15 (some 53) ?_
 refine pu_ HT_ 16 (some 54) ?_
 refine pu_ HT_ 17 (some 55) ?_
 refine pu_ HT_ 18 (some 56) ?_
 refine pu_ HT_ 19 (some 57) ?_
 refine pu_ HT_ 20 (some 58) ?_
 refine pu_ HT_ 21 (some 59) ?_
 refine take_ (i := 22) (N := some 60) (v := ?_) (a' := ?_) #[true, true, true, true, true, true, true, true, true, true, true, true, true, true, true, true, true, true, true, true, true, true, true, false, false, false, false, false, false, false, false, false, false, false] rfl rfl (take_ofW HT_.out HW_.out (by kernel_rfl)) (fun _ _ _ h => h) (Or.inl ⟨by rfl, ?_⟩) hHeld ?_ ?_
 rotate_left
 ·rintro w' ⟨s0, s1, s2, s3, s4, s5, s6, s7, s8, s9, s10, s11, s12, s13, s14, s15, s16, s17⟩
  go_simp
  with_reducible rfl
 rotate_left
 ·exact ap_
 refine take_ (i := 24) (N := some 62) (v := ?_) (a' := ?_) #[true, true, true, true, true, true, true, true, true, true, true, true, true, true, true, true, true, true, true, true, true, true, true, false, true, false, false, false, false, false, false, false, false, false] rfl rfl (take_ofW HT_.out HW_.out (by kernel_rfl)) (fun _ _ _ h => h) (Or.inl ⟨by rfl, ?_⟩) hHeld ?_ ?_
 rotate_left
 ·rintro w' ⟨s0, s1, s2, s3, s4, s5, s6, s7, s8, s9, s10, s11, s12, s13, s14, s15, s16, s17⟩
  go_simp
  with_reducible rfl
 rotate_left
 ·exact ap_
 refine one_ (i := 23) (N := some 61) #[true, true, true, true, true, true, true, true, true, true, true, true, true, true, true, true, true, true, true, true, true, true, true, true, true, false, false, false, false, false, false, false, false, false] rfl rfl (one_of HT_.out (by kernel_rfl)) (by decide) (fun K hK => ?_)
 refine goes_ Try.func21 (by kernel_rfl) rfl #[.agg #[.int .u64 a1_0, .int .i64 a1_1]] (by rfl) rfl rfl (ar_) ?_
 with_reducible refine (hard_Check.calls a1_0 a1_1 t608 _ A15.out).mono ?_
 rintro e w71 ⟨rfl, hb⟩
 refine ⟨_, rfl, ?_⟩
 have n0_ := a_ (Kd.R_below (by refine rq_ ?_; exact HO580.out) hb)
 have n1_ := a_ (Kd.R_below (by refine rq_ ?_; exact HO594.out) hb)
 have n2_ := a_ (Kd.V_below (by refine vq_ ?_; exact HO601.out) hb)
 have n3_ := bB_ BK576 hb
 have n4_ := bB_ BK577 hb
 have n5_ := bB_ BK583 hb
 have n6_ := bB_ BK587 hb
 have n7_ := bB_ BK591 hb
 have n8_ := bB_ BK598 hb
 have n9_ := bB_ BK605 hb
 have n10_ := a_ (below_step (by repeat (first | (with_reducible first | exact HB.out | apply below_alloc | apply pw_below_drewN | apply below_drew1 | refine below_set ?_ GE576.out | refine below_set ?_ GE577.out | refine below_set ?_ GE583.out | refine below_set ?_ GE587.out | refine below_set ?_ GE591.out | refine below_set ?_ GE598.out | refine below_set ?_ GE605.out) | exact HB.out)) hb)
 clear HO580
 clear HO594
 clear HO601
 clear BK576
 clear BK577
 clear BK583
 clear BK587
 clear BK591
 clear BK598
 clear BK605
 clear HB
 have HO580 := n0_
 have HO594 := n1_
 have HO601 := n2_
 have BK576 := n3_
 have BK577 := n4_
 have BK583 := n5_
 have BK587 := n6_
 have BK591 := n7_
 have BK598 := n8_
 have BK605 := n9_
 have HB := n10_
 clear n0_ n1_ n2_ n3_ n4_ n5_ n6_ n7_ n8_ n9_ n10_
 (try clear hb)
 (try clear hb2)
 (try clear hk)
 (try clear hi)
 refine hK.out _ _ ⟨(blk_cell BK587.out 0).trans rfl, (blk_cell BK587.out 1).trans rfl, (blk_cell BK591.out 0).trans rfl, (blk_cell BK591.out 1).trans rfl, (blk_cell BK598.out 0).trans rfl, (blk_cell BK598.out 1).trans rfl, (blk_cell BK598.out 2).trans rfl, (blk_cell BK605.out 0).trans rfl, (blk_cell BK605.out 1).trans rfl, (blk_cell BK605.out 2).trans rfl, (blk_cell BK577.out 0).trans rfl, (blk_cell BK577.out 1).trans rfl, (blk_cell BK583.out 0).trans rfl, (blk_cell BK583.out 1).trans rfl, (blk_cell BK583.out 2).trans rfl, (blk_cell BK576.out 0).trans rfl, (blk_cell BK576.out 1).trans rfl, (blk_cell BK576.out 2).trans rfl⟩ (fun hHeld => ?_)
 clear hK K
 refine norm_ (a' := ?_) ?_ ?_
 rotate_left
 ·show Act.put _ (some 61) _ = _
  simp only [Act.put, List.setIfInBounds_toArray, List.set_cons_zero, List.set_cons_succ, i64_w, i32_w]
  rfl
 refine one_ (i := 25) (N := some 63) #[true, true, true, true, true, true, true, true, true, true, true, true, true, true, true, true, true, true, true, true, true, true, true, true, true, true, false, false, false, false, false, false, false, false] rfl rfl (one_of HT_.out (by kernel_rfl)) (by decide) (fun K hK => ?_)
 refine goes_ Try.func22 (by kernel_rfl) rfl #[.agg #[.int .u64 a1_0, .int .i64 a1_1]] (by rfl) rfl rfl (ar_) ?_
 with_reducible refine (gafferref04_Check.calls a1_0 a1_1 t609 _ A16.out).mono ?_
 rintro e w72 ⟨rfl, hb⟩
 refine ⟨_, rfl, ?_⟩
 have n0_ := a_ (Kd.R_below (by refine rq_ ?_; exact HO580.out) hb)
 have n1_ := a_ (Kd.R_below (by refine rq_ ?_; exact HO594.out) hb)
 have n2_ := a_ (Kd.V_below (by refine vq_ ?_; exact HO601.out) hb)
 have n3_ := bB_ BK576 hb
 have n4_ := bB_ BK577 hb
 have n5_ := bB_ BK583 hb
 have n6_ := bB_ BK587 hb
 have n7_ := bB_ BK591 hb
 have n8_ := bB_ BK598 hb
 have n9_ := bB_ BK605 hb
 have n10_ := a_ (below_step (by repeat (first | (with_reducible first | exact HB.out | apply below_alloc | apply pw_below_drewN | apply below_drew1 | refine below_set ?_ GE576.out | refine below_set ?_ GE577.out | refine below_set ?_ GE583.out | refine below_set ?_ GE587.out | refine below_set ?_ GE591.out | refine below_set ?_ GE598.out | refine below_set ?_ GE605.out) | exact HB.out)) hb)
 clear HO580
 clear HO594
 clear HO601
 clear BK576
 clear BK577
 clear BK583
 clear BK587
 clear BK591
 clear BK598
 clear BK605
 clear HB
 have HO580 := n0_
 have HO594 := n1_
 have HO601 := n2_
 have BK576 := n3_
 have BK577 := n4_
 have BK583 := n5_
 have BK587 := n6_
 have BK591 := n7_
 have BK598 := n8_
 have BK605 := n9_
 have HB := n10_
 clear n0_ n1_ n2_ n3_ n4_ n5_ n6_ n7_ n8_ n9_ n10_
 (try clear hb)
 (try clear hb2)
 (try clear hk)
 (try clear hi)
 refine hK.out _ _ ⟨(blk_cell BK587.out 0).trans rfl, (blk_cell BK587.out 1).trans rfl, (blk_cell BK591.out 0).trans rfl, (blk_cell BK591.out 1).trans rfl, (blk_cell BK598.out 0).trans rfl, (blk_cell BK598.out 1).trans rfl, (blk_cell BK598.out 2).trans rfl, (blk_cell BK605.out 0).trans rfl, (blk_cell BK605.out 1).trans rfl, (blk_cell BK605.out 2).trans rfl, (blk_cell BK577.out 0).trans rfl, (blk_cell BK577.out 1).trans rfl, (blk_cell BK583.out 0).trans rfl, (blk_cell BK583.out 1).trans rfl, (blk_cell BK583.out 2).trans rfl, (blk_cell BK576.out 0).trans rfl, (blk_cell BK576.out 1).trans rfl, (blk_cell BK576.out 2).trans rfl⟩ (fun hHeld => ?_)
 clear hK K
 refine norm_ (a' := ?_) ?_ ?_
 rotate_left
 ·show Act.put _ (some 63) _ = _
  simp only [Act.put, List.setIfInBounds_toArray, List.set_cons_zero, List.set_cons_succ, i64_w, i32_w]
  rfl
 refine pu_ HT_ 26 (some 64) ?_
 refine pu_ HT_ 27 (some 65) ?_
 refine pu_ HT_ 28 (some 66) ?_
 refine take_ (i := 29) (N := some 67) (v := ?_) (a' := ?_) #[true, true, true, true, true, true, true, true, true, true, true, true, true, true, true, true, true, true, true, true, true, true, true, true, true, true, true, true, true, true, false, false, false, false] rfl rfl (take_ofW HT_.out HW_.out (by kernel_rfl)) (fun _ _ _ h => h) (Or.inl ⟨by rfl, ?_⟩) hHeld ?_ ?_
 rotate_left
 ·rintro w' ⟨s0, s1, s2, s3, s4, s5, s6, s7, s8, s9, s10, s11, s12, s13, s14, s15, s16, s17⟩
  go_simp
  with_reducible rfl
 rotate_left
 ·exact ap_
 refine take_ (i := 30) (N := some 68) (v := ?_) (a' := ?_) #[true, true, true, true, true, true, true, true, true, true, true, true, true, true, true, true, true, true, true, true, true, true, true, true, true, true, true, true, true, true, true, false, false, false] rfl rfl (take_ofW HT_.out HW_.out (by kernel_rfl)) (fun _ _ _ h => h) (Or.inl ⟨by rfl, ?_⟩) hHeld ?_ ?_
 rotate_left
 ·rintro w' ⟨s0, s1, s2, s3, s4, s5, s6, s7, s8, s9, s10, s11, s12, s13, s14, s15, s16, s17⟩
  go_simp
  with_reducible rfl
 rotate_left
 ·exact ap_
 refine one_ (i := 31) (N := some 69) #[true, true, true, true, true, true, true, true, true, true, true, true, true, true, true, true, true, true, true, true, true, true, true, true, true, true, true, true, true, true, true, true, false, false] rfl rfl (one_of HT_.out (by kernel_rfl)) (by decide) (fun K hK => ?_)
 refine goes_ Try.func20 (by kernel_rfl) rfl #[.agg #[.slice Ao25 t578.length co25, .bool t581, .int .i64 t582], .agg #[.slice A0_0 l0_0.length c0_0, .bool a0_1, .int .i64 a0_2]] (by rfl) rfl rfl (ar_) ?_
 with_reducible refine (gafferref02_Same.calls k _ _ t578 t581 t582 _ _ l0_0 a0_1 a0_2 t610 _ ?side1 ?side2 ?side3 ?side4 A18.out).mono ?_
 (case side1 => exact cl_ ((Kd.R_reads' HO580.out).2.2))
 (case side2 => exact (Kd.R_reads' HO580.out).2.1)
 (case side3 => exact cl_ (Kd.C_below HR0_0.out HB.out))
 (case side4 => exact HC0_0.out)
 rintro e w73 ⟨rfl, hb⟩
 refine ⟨_, rfl, ?_⟩
 have n0_ := a_ (Kd.R_below (by refine rq_ ?_; exact HO580.out) hb)
 have n1_ := a_ (Kd.R_below (by refine rq_ ?_; exact HO594.out) hb)
 have n2_ := a_ (Kd.V_below (by refine vq_ ?_; exact HO601.out) hb)
 have n3_ := bB_ BK576 hb
 have n4_ := bB_ BK577 hb
 have n5_ := bB_ BK583 hb
 have n6_ := bB_ BK587 hb
 have n7_ := bB_ BK591 hb
 have n8_ := bB_ BK598 hb
 have n9_ := bB_ BK605 hb
 have n10_ := a_ (below_step (by repeat (first | (with_reducible first | exact HB.out | apply below_alloc | apply pw_below_drewN | apply below_drew1 | refine below_set ?_ GE576.out | refine below_set ?_ GE577.out | refine below_set ?_ GE583.out | refine below_set ?_ GE587.out | refine below_set ?_ GE591.out | refine below_set ?_ GE598.out | refine below_set ?_ GE605.out) | exact HB.out)) hb)
 clear HO580
 clear HO594
 clear HO601
 clear BK576
 clear BK577
 clear BK583
 clear BK587
 clear BK591
 clear BK598
 clear BK605
 clear HB
 have HO580 := n0_
 have HO594 := n1_
 have HO601 := n2_
 have BK576 := n3_
 have BK577 := n4_
 have BK583 := n5_
 have BK587 := n6_
 have BK591 := n7_
 have BK598 := n8_
 have BK605 := n9_
 have HB := n10_
 clear n0_ n1_ n2_ n3_ n4_ n5_ n6_ n7_ n8_ n9_ n10_
 (try clear hb)
 (try clear hb2)
 (try clear hk)
 (try clear hi)
 refine hK.out _ _ ⟨(blk_cell BK587.out 0).trans rfl, (blk_cell BK587.out 1).trans rfl, (blk_cell BK591.out 0).trans rfl, (blk_cell BK591.out 1).trans rfl, (blk_cell BK598.out 0).trans rfl, (blk_cell BK598.out 1).trans rfl, (blk_cell BK598.out 2).trans rfl, (blk_cell BK605.out 0).trans rfl, (blk_cell BK605.out 1).trans rfl, (blk_cell BK605.out 2).trans rfl, (blk_cell BK577.out 0).trans rfl, (blk_cell BK577.out 1).trans rfl, (blk_cell BK583.out 0).trans rfl, (blk_cell BK583.out 1).trans rfl, (blk_cell BK583.out 2).trans rfl, (blk_cell BK576.out 0).trans rfl, (blk_cell BK576.out 1).trans rfl, (blk_cell BK576.out 2).trans rfl⟩ (fun hHeld => ?_)
 clear hK K
 refine norm_ (a' := ?_) ?_ ?_
 rotate_left
 ·show Act.put _ (some 69) _ = _
  simp only [Act.put, List.setIfInBounds_toArray, List.set_cons_zero, List.set_cons_succ, i64_w, i32_w]
  rfl
 refine pu_ HT_ 32 (some 70) ?_
 refine pu_ HT_ 33 (some 4) ?_
 refine done_ (done_of HT_.out (by kernel_rfl)) ?_
 try go_wp2
 go_ret
 exact ⟨fz_, by repeat (first | (with_reducible first | exact HB.out | apply below_alloc | apply pw_below_drewN | apply below_drew1 | refine below_set ?_ GE576.out | refine below_set ?_ GE577.out | refine below_set ?_ GE583.out | refine below_set ?_ GE587.out | refine below_set ?_ GE591.out | refine below_set ?_ GE598.out | refine below_set ?_ GE605.out) | exact HB.out)⟩
/-- THE ONE PURE STATEMENT of gafferlaw04_HardDoes: yours. -/
def gafferlaw04_HardDoes.Pure : Prop := ∀ (x0 : S24) (x1 : S27), ok24 x0 → ok27 x1 → ∃ k, gafferlaw04_HardDoes.f k x0.f0 x0.f1 x0.f2 x1.f0 x1.f1 = some true

end Go.Proofs.Ytpigjmjbfpipnaa.PD
