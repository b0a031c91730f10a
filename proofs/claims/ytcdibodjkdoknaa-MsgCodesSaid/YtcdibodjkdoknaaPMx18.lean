-- By a program of this session.
import Derived.Test.YtcdibodjkdoknaaPMx0
import Derived.Test.YtcdibodjkdoknaaPMx2
import Derived.Test.YtcdibodjkdoknaaPMx5
import Derived.Test.YtcdibodjkdoknaaPMx6
import Derived.Test.YtcdibodjkdoknaaPMx7
import Derived.Test.YtcdibodjkdoknaaPMx8
import Derived.Test.YtcdibodjkdoknaaPMx15
import Derived.Test.YtcdibodjkdoknaaPMx16
import Derived.Test.YtcdibodjkdoknaaPMx17
namespace Go.Proofs.Ytcdibodjkdoknaa.PM
open Go.RowKit YtcdibodjkdoknaaW.PrintWords YtcdibodjkdoknaaW.PrintLast YtcdibodjkdoknaaW.PrintMore Sh Ytcdibodjkdoknaa.Op
attribute [local go_sem] max2_int min2_int max_two min_two max_three min_three max_four min_four
set_option linter.unusedVariables false
set_option maxHeartbeats 80000000
set_option maxRecDepth 100000
set_option linter.unusedSimpArgs false

def gafferref05_Take.f (k : Nat) (a0 : ByteArray) : Option (Int × Int × List Int × ByteArray × ByteArray × Bool) := (gafferref01_TakeNumber.f k a0).bind fun bt362 => ((gafferref01_TakeNumber.f k bt362.2.1).bind fun bt365 => ((gafferref03_TakeInts.f k bt365.2.1).bind fun bt368 => ((gafferref01_TakeText.f k bt368.2.1).bind fun bt373 => (if bt362.2.2 = 0 then (if bt365.2.2 = 0 then (if bt368.2.2 = true then (if bt373.2.2 = 0 then ((gafferref05_Check.f k bt362.1 bt365.1 bt368.1 bt373.1).bind fun t377 => (if t377 = 0 then (some (bt362.1, bt365.1, bt368.1, bt373.1, bt373.2.1, true)) else (some (0, 0, ([] : List Int), (⟨#[]⟩ : ByteArray), (⟨#[]⟩ : ByteArray), false)))) else (some (0, 0, ([] : List Int), (⟨#[]⟩ : ByteArray), (⟨#[]⟩ : ByteArray), false))) else (some (0, 0, ([] : List Int), (⟨#[]⟩ : ByteArray), (⟨#[]⟩ : ByteArray), false))) else (some (0, 0, ([] : List Int), (⟨#[]⟩ : ByteArray), (⟨#[]⟩ : ByteArray), false))) else (some (0, 0, ([] : List Int), (⟨#[]⟩ : ByteArray), (⟨#[]⟩ : ByteArray), false))))))
theorem gafferref05_Take.mono : ∀ a0 k, LeO (gafferref05_Take.f k a0) (gafferref05_Take.f (k + 1) a0) := by
 intro a0 k
 unfold gafferref05_Take.f
 repeat' with_reducible first | apply gafferref01_TakeNumber.mono | apply gafferref01_TakeText.mono | apply gafferref03_TakeInts.mono | apply gafferref05_Check.mono | apply LeO.refl | apply LeO.none | apply LeO.ite | refine LeO.bind ?_ (fun _ => ?_)
theorem gafferref05_Take.calls (k : Nat) (a0 : ByteArray) (r1 : Int) (r2 : Int) (r3 : List Int) (r4 : ByteArray) (r5 : ByteArray) (r6 : Bool) (w : World) (h : gafferref05_Take.f k a0 = some (r1, r2, r3, r4, r5, r6)) :
  Calls Try.prog 84 #[.string a0] w fun e w' => ∃ v2_ : Value, e = .returned (.tuple #[.agg #[.int .u64 r1, .int .u64 r2, v2_, .string r4], .string r5, .bool r6]) ∧ Kd.R (Kd.int .i64) 3 w' w.heap.size (fun _ => True) v2_ r3 ∧ Below w.heap.size w w' := by
 have hu_1 := Try.underlying35
 have HB := a_ (Below.refl w.heap.size w)
 have H := h
 unfold gafferref05_Take.f at H
 clear h
 obtain ⟨⟨t_1, t_2, t_3⟩, A_1, H⟩ := Option.bind_eq_some_iff.mp H
 try dsimp only at H
 have A_2 := a_ A_1
 clear A_1
 obtain ⟨⟨t_4, t_5, t_6⟩, A_3, H⟩ := Option.bind_eq_some_iff.mp H
 try dsimp only at H
 have A_4 := a_ A_3
 clear A_3
 obtain ⟨⟨t_7, t_8, t_9⟩, A_5, H⟩ := Option.bind_eq_some_iff.mp H
 try dsimp only at H
 have A_6 := a_ A_5
 clear A_5
 obtain ⟨⟨t_10, t_11, t_12⟩, A_7, H⟩ := Option.bind_eq_some_iff.mp H
 try dsimp only at H
 have A_8 := a_ A_7
 clear A_7
 by_cases c_1 : t_3 = 0
 rotate_left
 focus
  rw [if_neg c_1] at H
  have c_2 : (t_3 == 0) = false := beq_eq_false_iff_ne.mpr c_1
  have c_3 : (t_3 != 0) = true := bne_iff_ne.mpr c_1
  simp only [Option.some.injEq, Prod.mk.injEq] at H
  obtain ⟨rfl, rfl, rfl, rfl, rfl, rfl⟩ := H
  have L0_ := trivial
 rotate_left
 focus
  rw [if_pos c_1] at H
  have c_2 : (t_3 == 0) = true := beq_iff_eq.mpr c_1
  have c_3 : (t_3 != 0) = false := bne_eq_false_iff_eq.mpr c_1
  clear c_1
  by_cases c_4 : t_6 = 0
  rotate_left
  focus
   rw [if_neg c_4] at H
   have c_5 : (t_6 == 0) = false := beq_eq_false_iff_ne.mpr c_4
   have c_6 : (t_6 != 0) = true := bne_iff_ne.mpr c_4
   simp only [Option.some.injEq, Prod.mk.injEq] at H
   obtain ⟨rfl, rfl, rfl, rfl, rfl, rfl⟩ := H
   have L0_ := trivial
  rotate_left
  focus
   rw [if_pos c_4] at H
   have c_5 : (t_6 == 0) = true := beq_iff_eq.mpr c_4
   have c_6 : (t_6 != 0) = false := bne_eq_false_iff_eq.mpr c_4
   clear c_4
   by_cases c_7 : t_9 = true
   rotate_left
   focus
    replace c_7 := Bool.eq_false_iff.mpr c_7
    subst c_7
    rw [if_neg (show ¬ (false = true) by decide)] at H
    simp only [Option.some.injEq, Prod.mk.injEq] at H
    obtain ⟨rfl, rfl, rfl, rfl, rfl, rfl⟩ := H
    have L1_ := trivial
   rotate_left
   focus
    subst c_7
    rw [if_pos rfl] at H
    by_cases c_8 : t_12 = 0
    rotate_left
    focus
     rw [if_neg c_8] at H
     have c_9 : (t_12 == 0) = false := beq_eq_false_iff_ne.mpr c_8
     have c_10 : (t_12 != 0) = true := bne_iff_ne.mpr c_8
     simp only [Option.some.injEq, Prod.mk.injEq] at H
     obtain ⟨rfl, rfl, rfl, rfl, rfl, rfl⟩ := H
     have L1_ := trivial
    rotate_left
    focus
     rw [if_pos c_8] at H
     have c_9 : (t_12 == 0) = true := beq_iff_eq.mpr c_8
     have c_10 : (t_12 != 0) = false := bne_eq_false_iff_eq.mpr c_8
     clear c_8
     obtain ⟨t_13, A_9, H⟩ := Option.bind_eq_some_iff.mp H
     try dsimp only at H
     have A_10 := a_ A_9
     clear A_9
     by_cases c_11 : t_13 = 0
     rotate_left
     focus
      rw [if_neg c_11] at H
      have c_12 : (t_13 == 0) = false := beq_eq_false_iff_ne.mpr c_11
      have c_13 : (t_13 != 0) = true := bne_iff_ne.mpr c_11
      simp only [Option.some.injEq, Prod.mk.injEq] at H
      obtain ⟨rfl, rfl, rfl, rfl, rfl, rfl⟩ := H
      have L2_ := trivial
     rotate_left
     rw [if_pos c_11] at H
     have c_12 : (t_13 == 0) = true := beq_iff_eq.mpr c_11
     have c_13 : (t_13 != 0) = false := bne_eq_false_iff_eq.mpr c_11
     clear c_11
     simp only [Option.some.injEq, Prod.mk.injEq] at H
     obtain ⟨rfl, rfl, rfl, rfl, rfl, rfl⟩ := H
     have L3_ := trivial
 all_goals
  go_enter Try.func84, Try.ntmps84
  first
  | (have _ := L0_
     go_wp2_with (first | ((with_reducible refine gd_ 2 ?_); refine bx_ 2 #[.int .u64 0, .int .u64 0, .slice none 0 0, .string (⟨#[]⟩ : ByteArray)] 35 ?_; intro gb_1 hg w_1 hbox hb; have BK_1 := a_ (hbox); have GE_1 := a_ (bs_0 hg HB); replace HB := hB_ (bl_ HB) hb; clear hb hbox hg) | ((with_reducible refine gk_ 60 ?_); refine gl_ (some 16) Try.func60 #[.string a0] ?_; (with_reducible refine (gafferref01_TakeNumber.calls k a0 t_1 t_2 t_3 _ A_2.out).mono ?_); rintro e w' ⟨rfl, ⟨nd, rfl⟩⟩; refine ⟨_, rfl, ?_⟩; (try (rw [drewN_self w_1]; generalize hq_ : World.drewN w_1 _ = w_1; have n_1 : Aside0 (w_1.heap[gb_1]? = some (.cells #[.int .u64 0, .int .u64 0, .slice none 0 0, .string (⟨#[]⟩ : ByteArray)] 35 (0, 0))) := ⟨by rw [← hq_]; exact (bk_ BK_1)⟩; have n_2 : Aside0 (Below w.heap.size w w_1) := ⟨by rw [← hq_]; exact (bl_1 HB GE_1)⟩; clear BK_1 HB hq_; have BK_1 := n_1; have HB := n_2; clear n_1 n_2))) | ((with_reducible refine gk_ 60 ?_); refine gl_ (some 22) Try.func60 #[.string t_2] ?_; (with_reducible refine (gafferref01_TakeNumber.calls k t_2 t_4 t_5 t_6 _ A_4.out).mono ?_); rintro e w' ⟨rfl, ⟨nd, rfl⟩⟩; refine ⟨_, rfl, ?_⟩; (try (rw [drewN_self w_1]; generalize hq_ : World.drewN w_1 _ = w_1; have n_1 : Aside0 (w_1.heap[gb_1]? = some (.cells #[.int .u64 0, .int .u64 0, .slice none 0 0, .string (⟨#[]⟩ : ByteArray)] 35 (0, 0))) := ⟨by rw [← hq_]; exact (bk_ BK_1)⟩; have n_2 : Aside0 (Below w.heap.size w w_1) := ⟨by rw [← hq_]; exact (bl_1 HB GE_1)⟩; clear BK_1 HB hq_; have BK_1 := n_1; have HB := n_2; clear n_1 n_2))) | ((with_reducible refine gk_ 89 ?_); refine gl_ (some 28) Try.func89 #[.string t_5] ?_; (with_reducible refine (gafferref03_TakeInts.calls k t_5 t_7 t_8 t_9 _ A_6.out).mono ?_); rintro e w_2 ⟨v_1, rfl, ho_1, hb⟩; refine ⟨_, rfl, ?_⟩; have HO_1 := a_ (Kd.R_lower ho_1 (below_size (bl_1 HB GE_1))); replace BK_1 := bB_ BK_1 hb; replace HB := hB_ (bl_1 HB GE_1) hb; (try clear hb); (try clear ho_1)) | ((with_reducible refine gk_ 83 ?_); refine gl_ (some 34) Try.func83 #[.string t_8] ?_; (with_reducible refine (gafferref01_TakeText.calls k t_8 t_10 t_11 t_12 _ A_8.out).mono ?_); rintro e w' ⟨rfl, ⟨nd, rfl⟩⟩; refine ⟨_, rfl, ?_⟩; (try (rw [drewN_self w_2]; generalize hq_ : World.drewN w_2 _ = w_2; have n_1 : Aside0 (Kd.R (Kd.int .i64) 3 w_2 w.heap.size (fun _ => True) v_1 t_7) := ⟨by rw [← hq_]; exact (by refine rq_ ?_; exact HO_1.out)⟩; have n_2 : Aside0 (w_2.heap[gb_1]? = some (.cells #[.int .u64 0, .int .u64 0, .slice none 0 0, .string (⟨#[]⟩ : ByteArray)] 35 (0, 0))) := ⟨by rw [← hq_]; exact (bk_ BK_1)⟩; have n_3 : Aside0 (Below w.heap.size w w_2) := ⟨by rw [← hq_]; exact (bl_1 HB GE_1)⟩; clear HO_1 BK_1 HB hq_; have HO_1 := n_1; have BK_1 := n_2; have HB := n_3; clear n_1 n_2 n_3)); obtain ⟨Ao_1, co_1, eo_1⟩ := Kd.R_slice HO_1.out; subst eo_1) | ((with_reducible refine gd_ 13 ?_); refine bx_ 13 #[.int .u64 0, .int .u64 0, .slice none 0 0, .string (⟨#[]⟩ : ByteArray)] 35 ?_; intro gb_2 hg w_3 hbox hb; replace HO_1 := a_ (Kd.R_below (by refine rq_ ?_; exact HO_1.out) hb); have BK_2 := a_ (hbox); have GE_2 := a_ (bs_1 hg HB GE_1); replace HB := hB_ (bl_1 HB GE_1) hb; have NB_1 := nB_ hg BK_1; have NB_2 := nC_ hg BK_1; replace BK_1 := bB_ BK_1 hb; clear hb hbox hg; have hnb_1 := NB_2.out; have hnc_1 := NB_1.out; obtain ⟨_, _, _, _, _, _, _, _⟩ := c4_ BK_2; obtain ⟨_, _, _, _, _, _, _, _⟩ := c4_ BK_1))
     refine bodyPost_ret (results_ctt rfl _ _ gb_1 35 #[.int .u64 0, .int .u64 0, .slice none 0 0, .string (⟨#[]⟩ : ByteArray)] (0, 0) _ rfl (bp_1 BK_1 NB_1) Try.underlying35 rfl (by kernel_rfl)) rfl ?_
     exact ⟨_, fz_, by first | exact Kd.R_nil _ _ _ _ _ | exact Kd.N_nil _ _ _ _ _ | exact Kd.V_nil _ _ _ _ _ | exact Kd.Q_nil _ _ _ _ _ | exact Kd.S_nil _ _ _ _ _, bl_2 HB GE_1 GE_2⟩)
  | (have _ := L1_
     go_wp2_with (first | ((with_reducible refine gd_ 2 ?_); refine bx_ 2 #[.int .u64 0, .int .u64 0, .slice none 0 0, .string (⟨#[]⟩ : ByteArray)] 35 ?_; intro gb_1 hg w_1 hbox hb; have BK_1 := a_ (hbox); have GE_1 := a_ (bs_0 hg HB); replace HB := hB_ (bl_ HB) hb; clear hb hbox hg) | ((with_reducible refine gk_ 60 ?_); refine gl_ (some 16) Try.func60 #[.string a0] ?_; (with_reducible refine (gafferref01_TakeNumber.calls k a0 t_1 t_2 t_3 _ A_2.out).mono ?_); rintro e w' ⟨rfl, ⟨nd, rfl⟩⟩; refine ⟨_, rfl, ?_⟩; (try (rw [drewN_self w_1]; generalize hq_ : World.drewN w_1 _ = w_1; have n_1 : Aside0 (w_1.heap[gb_1]? = some (.cells #[.int .u64 0, .int .u64 0, .slice none 0 0, .string (⟨#[]⟩ : ByteArray)] 35 (0, 0))) := ⟨by rw [← hq_]; exact (bk_ BK_1)⟩; have n_2 : Aside0 (Below w.heap.size w w_1) := ⟨by rw [← hq_]; exact (bl_1 HB GE_1)⟩; clear BK_1 HB hq_; have BK_1 := n_1; have HB := n_2; clear n_1 n_2))) | ((with_reducible refine gk_ 60 ?_); refine gl_ (some 22) Try.func60 #[.string t_2] ?_; (with_reducible refine (gafferref01_TakeNumber.calls k t_2 t_4 t_5 t_6 _ A_4.out).mono ?_); rintro e w' ⟨rfl, ⟨nd, rfl⟩⟩; refine ⟨_, rfl, ?_⟩; (try (rw [drewN_self w_1]; generalize hq_ : World.drewN w_1 _ = w_1; have n_1 : Aside0 (w_1.heap[gb_1]? = some (.cells #[.int .u64 0, .int .u64 0, .slice none 0 0, .string (⟨#[]⟩ : ByteArray)] 35 (0, 0))) := ⟨by rw [← hq_]; exact (bk_ BK_1)⟩; have n_2 : Aside0 (Below w.heap.size w w_1) := ⟨by rw [← hq_]; exact (bl_1 HB GE_1)⟩; clear BK_1 HB hq_; have BK_1 := n_1; have HB := n_2; clear n_1 n_2))) | ((with_reducible refine gk_ 89 ?_); refine gl_ (some 28) Try.func89 #[.string t_5] ?_; (with_reducible refine (gafferref03_TakeInts.calls k t_5 t_7 t_8 _ _ A_6.out).mono ?_); rintro e w_2 ⟨v_1, rfl, ho_1, hb⟩; refine ⟨_, rfl, ?_⟩; have HO_1 := a_ (Kd.R_lower ho_1 (below_size (bl_1 HB GE_1))); replace BK_1 := bB_ BK_1 hb; replace HB := hB_ (bl_1 HB GE_1) hb; (try clear hb); (try clear ho_1)) | ((with_reducible refine gk_ 83 ?_); refine gl_ (some 34) Try.func83 #[.string t_8] ?_; (with_reducible refine (gafferref01_TakeText.calls k t_8 t_10 t_11 t_12 _ A_8.out).mono ?_); rintro e w' ⟨rfl, ⟨nd, rfl⟩⟩; refine ⟨_, rfl, ?_⟩; (try (rw [drewN_self w_2]; generalize hq_ : World.drewN w_2 _ = w_2; have n_1 : Aside0 (Kd.R (Kd.int .i64) 3 w_2 w.heap.size (fun _ => True) v_1 t_7) := ⟨by rw [← hq_]; exact (by refine rq_ ?_; exact HO_1.out)⟩; have n_2 : Aside0 (w_2.heap[gb_1]? = some (.cells #[.int .u64 0, .int .u64 0, .slice none 0 0, .string (⟨#[]⟩ : ByteArray)] 35 (0, 0))) := ⟨by rw [← hq_]; exact (bk_ BK_1)⟩; have n_3 : Aside0 (Below w.heap.size w w_2) := ⟨by rw [← hq_]; exact (bl_1 HB GE_1)⟩; clear HO_1 BK_1 HB hq_; have HO_1 := n_1; have BK_1 := n_2; have HB := n_3; clear n_1 n_2 n_3)); obtain ⟨Ao_1, co_1, eo_1⟩ := Kd.R_slice HO_1.out; subst eo_1) | ((with_reducible refine gd_ 13 ?_); refine bx_ 13 #[.int .u64 0, .int .u64 0, .slice none 0 0, .string (⟨#[]⟩ : ByteArray)] 35 ?_; intro gb_2 hg w_3 hbox hb; replace HO_1 := a_ (Kd.R_below (by refine rq_ ?_; exact HO_1.out) hb); have BK_2 := a_ (hbox); have GE_2 := a_ (bs_1 hg HB GE_1); replace HB := hB_ (bl_1 HB GE_1) hb; have NB_1 := nB_ hg BK_1; have NB_2 := nC_ hg BK_1; replace BK_1 := bB_ BK_1 hb; clear hb hbox hg; have hnb_1 := NB_2.out; have hnc_1 := NB_1.out; obtain ⟨_, _, _, _, _, _, _, _⟩ := c4_ BK_2; obtain ⟨_, _, _, _, _, _, _, _⟩ := c4_ BK_1))
     refine bodyPost_ret (results_ctt rfl _ _ gb_1 35 #[.int .u64 0, .int .u64 0, .slice none 0 0, .string (⟨#[]⟩ : ByteArray)] (0, 0) _ rfl (bp_1 BK_1 NB_1) Try.underlying35 rfl (by kernel_rfl)) rfl ?_
     exact ⟨_, fz_, by first | exact Kd.R_nil _ _ _ _ _ | exact Kd.N_nil _ _ _ _ _ | exact Kd.V_nil _ _ _ _ _ | exact Kd.Q_nil _ _ _ _ _ | exact Kd.S_nil _ _ _ _ _, bl_2 HB GE_1 GE_2⟩)
  | (have _ := L2_
     go_wp2_with (first | ((with_reducible refine gd_ 2 ?_); refine bx_ 2 #[.int .u64 0, .int .u64 0, .slice none 0 0, .string (⟨#[]⟩ : ByteArray)] 35 ?_; intro gb_1 hg w_1 hbox hb; have BK_1 := a_ (hbox); have GE_1 := a_ (bs_0 hg HB); replace HB := hB_ (bl_ HB) hb; clear hb hbox hg) | ((with_reducible refine gk_ 60 ?_); refine gl_ (some 16) Try.func60 #[.string a0] ?_; (with_reducible refine (gafferref01_TakeNumber.calls k a0 t_1 t_2 t_3 _ A_2.out).mono ?_); rintro e w' ⟨rfl, ⟨nd, rfl⟩⟩; refine ⟨_, rfl, ?_⟩; (try (rw [drewN_self w_1]; generalize hq_ : World.drewN w_1 _ = w_1; have n_1 : Aside0 (w_1.heap[gb_1]? = some (.cells #[.int .u64 0, .int .u64 0, .slice none 0 0, .string (⟨#[]⟩ : ByteArray)] 35 (0, 0))) := ⟨by rw [← hq_]; exact (bk_ BK_1)⟩; have n_2 : Aside0 (Below w.heap.size w w_1) := ⟨by rw [← hq_]; exact (bl_1 HB GE_1)⟩; clear BK_1 HB hq_; have BK_1 := n_1; have HB := n_2; clear n_1 n_2))) | ((with_reducible refine gk_ 60 ?_); refine gl_ (some 22) Try.func60 #[.string t_2] ?_; (with_reducible refine (gafferref01_TakeNumber.calls k t_2 t_4 t_5 t_6 _ A_4.out).mono ?_); rintro e w' ⟨rfl, ⟨nd, rfl⟩⟩; refine ⟨_, rfl, ?_⟩; (try (rw [drewN_self w_1]; generalize hq_ : World.drewN w_1 _ = w_1; have n_1 : Aside0 (w_1.heap[gb_1]? = some (.cells #[.int .u64 0, .int .u64 0, .slice none 0 0, .string (⟨#[]⟩ : ByteArray)] 35 (0, 0))) := ⟨by rw [← hq_]; exact (bk_ BK_1)⟩; have n_2 : Aside0 (Below w.heap.size w w_1) := ⟨by rw [← hq_]; exact (bl_1 HB GE_1)⟩; clear BK_1 HB hq_; have BK_1 := n_1; have HB := n_2; clear n_1 n_2))) | ((with_reducible refine gk_ 89 ?_); refine gl_ (some 28) Try.func89 #[.string t_5] ?_; (with_reducible refine (gafferref03_TakeInts.calls k t_5 t_7 t_8 _ _ A_6.out).mono ?_); rintro e w_2 ⟨v_1, rfl, ho_1, hb⟩; refine ⟨_, rfl, ?_⟩; have HO_1 := a_ (Kd.R_lower ho_1 (below_size (bl_1 HB GE_1))); replace BK_1 := bB_ BK_1 hb; replace HB := hB_ (bl_1 HB GE_1) hb; (try clear hb); (try clear ho_1)) | ((with_reducible refine gk_ 83 ?_); refine gl_ (some 34) Try.func83 #[.string t_8] ?_; (with_reducible refine (gafferref01_TakeText.calls k t_8 t_10 t_11 t_12 _ A_8.out).mono ?_); rintro e w' ⟨rfl, ⟨nd, rfl⟩⟩; refine ⟨_, rfl, ?_⟩; (try (rw [drewN_self w_2]; generalize hq_ : World.drewN w_2 _ = w_2; have n_1 : Aside0 (Kd.R (Kd.int .i64) 3 w_2 w.heap.size (fun _ => True) v_1 t_7) := ⟨by rw [← hq_]; exact (by refine rq_ ?_; exact HO_1.out)⟩; have n_2 : Aside0 (w_2.heap[gb_1]? = some (.cells #[.int .u64 0, .int .u64 0, .slice none 0 0, .string (⟨#[]⟩ : ByteArray)] 35 (0, 0))) := ⟨by rw [← hq_]; exact (bk_ BK_1)⟩; have n_3 : Aside0 (Below w.heap.size w w_2) := ⟨by rw [← hq_]; exact (bl_1 HB GE_1)⟩; clear HO_1 BK_1 HB hq_; have HO_1 := n_1; have BK_1 := n_2; have HB := n_3; clear n_1 n_2 n_3)); obtain ⟨Ao_1, co_1, eo_1⟩ := Kd.R_slice HO_1.out; subst eo_1) | ((with_reducible refine gd_ 13 ?_); refine bx_ 13 #[.int .u64 0, .int .u64 0, .slice none 0 0, .string (⟨#[]⟩ : ByteArray)] 35 ?_; intro gb_2 hg w_3 hbox hb; replace HO_1 := a_ (Kd.R_below (by refine rq_ ?_; exact HO_1.out) hb); have BK_2 := a_ (hbox); have GE_2 := a_ (bs_1 hg HB GE_1); replace HB := hB_ (bl_1 HB GE_1) hb; have NB_1 := nB_ hg BK_1; have NB_2 := nC_ hg BK_1; replace BK_1 := bB_ BK_1 hb; clear hb hbox hg; have hnb_1 := NB_2.out; have hnc_1 := NB_1.out; obtain ⟨_, _, _, _, _, _, _, _⟩ := c4_ BK_2) | (go_at_call 38; (with_reducible refine (gafferref05_Check.calls k t_1 t_4 _ _ t_7 t_10 t_13 _ ?side1 ?side2 A_10.out).mono ?_); (case side1 => refine (Kd.R_reads' (e := 3) (base := w.heap.size) (ok := fun k_ => True) (n := t_7.length) (c := co_1) ?_).2.2; exact (by refine rq_ ?_; exact (Kd.R_mono (Kd.R_far (p := ⟨gb_2, 3, none⟩) (Kd.R_far (p := ⟨gb_2, 2, none⟩) (Kd.R_far (p := ⟨gb_2, 1, none⟩) (Kd.R_far (p := ⟨gb_2, 0, none⟩) (Kd.R_types HO_1.out BK_2.out (by decide)) (fun _ hk => hk.2) (.int .u64 t_1)) (fun _ hk => hk.2) (.int .u64 t_4)) (fun _ hk => hk.2) (.slice Ao_1 t_7.length co_1)) (fun _ hk => hk.2) (.string t_10)) (fun _ h_ => h_.1)))); (case side2 => exact (Kd.R_reads' HO_1.out).2.1); rintro e w_4 ⟨rfl, hb⟩; replace HO_1 := a_ (Kd.R_below (by refine rq_ ?_; exact (Kd.R_mono (Kd.R_far (p := ⟨gb_2, 3, none⟩) (Kd.R_far (p := ⟨gb_2, 2, none⟩) (Kd.R_far (p := ⟨gb_2, 1, none⟩) (Kd.R_far (p := ⟨gb_2, 0, none⟩) (Kd.R_types HO_1.out BK_2.out (by decide)) (fun _ hk => hk.2) (.int .u64 t_1)) (fun _ hk => hk.2) (.int .u64 t_4)) (fun _ hk => hk.2) (.slice Ao_1 t_7.length co_1)) (fun _ hk => hk.2) (.string t_10)) (fun _ h_ => h_.1))) hb); replace BK_1 := a_ (blk_below (g := gb_1) (o := .cells #[.int .u64 0, .int .u64 0, .slice none 0 0, .string (⟨#[]⟩ : ByteArray)] 35 (0, 0)) (bp_1 BK_1 NB_1) hb); replace BK_2 := a_ (blk_below (g := gb_2) (o := .cells #[.int .u64 t_1, .int .u64 t_4, .slice Ao_1 t_7.length co_1, .string t_10] 35 (0, 0)) (bp_0 BK_2) hb); replace HB := hB_ (bl_2 HB GE_1 GE_2) hb; (try clear hb); obtain ⟨_, _, _, _, _, _, _, _⟩ := c4_ BK_1))
     refine bodyPost_ret (results_ctt rfl _ _ gb_1 35 #[.int .u64 0, .int .u64 0, .slice none 0 0, .string (⟨#[]⟩ : ByteArray)] (0, 0) _ rfl (bp_0 BK_1) Try.underlying35 rfl (by kernel_rfl)) rfl ?_
     exact ⟨_, fz_, by first | exact Kd.R_nil _ _ _ _ _ | exact Kd.N_nil _ _ _ _ _ | exact Kd.V_nil _ _ _ _ _ | exact Kd.Q_nil _ _ _ _ _ | exact Kd.S_nil _ _ _ _ _, bl_2 HB GE_1 GE_2⟩)
  | (have _ := L3_
     go_wp2_with (first | ((with_reducible refine gd_ 2 ?_); refine bx_ 2 #[.int .u64 0, .int .u64 0, .slice none 0 0, .string (⟨#[]⟩ : ByteArray)] 35 ?_; intro gb_1 hg w_1 hbox hb; have BK_1 := a_ (hbox); have GE_1 := a_ (bs_0 hg HB); replace HB := hB_ (bl_ HB) hb; clear hb hbox hg) | ((with_reducible refine gk_ 60 ?_); refine gl_ (some 16) Try.func60 #[.string a0] ?_; (with_reducible refine (gafferref01_TakeNumber.calls k a0 t_1 t_2 t_3 _ A_2.out).mono ?_); rintro e w' ⟨rfl, ⟨nd, rfl⟩⟩; refine ⟨_, rfl, ?_⟩; (try (rw [drewN_self w_1]; generalize hq_ : World.drewN w_1 _ = w_1; have n_1 : Aside0 (w_1.heap[gb_1]? = some (.cells #[.int .u64 0, .int .u64 0, .slice none 0 0, .string (⟨#[]⟩ : ByteArray)] 35 (0, 0))) := ⟨by rw [← hq_]; exact (bk_ BK_1)⟩; have n_2 : Aside0 (Below w.heap.size w w_1) := ⟨by rw [← hq_]; exact (bl_1 HB GE_1)⟩; clear BK_1 HB hq_; have BK_1 := n_1; have HB := n_2; clear n_1 n_2))) | ((with_reducible refine gk_ 60 ?_); refine gl_ (some 22) Try.func60 #[.string t_2] ?_; (with_reducible refine (gafferref01_TakeNumber.calls k t_2 t_4 t_5 t_6 _ A_4.out).mono ?_); rintro e w' ⟨rfl, ⟨nd, rfl⟩⟩; refine ⟨_, rfl, ?_⟩; (try (rw [drewN_self w_1]; generalize hq_ : World.drewN w_1 _ = w_1; have n_1 : Aside0 (w_1.heap[gb_1]? = some (.cells #[.int .u64 0, .int .u64 0, .slice none 0 0, .string (⟨#[]⟩ : ByteArray)] 35 (0, 0))) := ⟨by rw [← hq_]; exact (bk_ BK_1)⟩; have n_2 : Aside0 (Below w.heap.size w w_1) := ⟨by rw [← hq_]; exact (bl_1 HB GE_1)⟩; clear BK_1 HB hq_; have BK_1 := n_1; have HB := n_2; clear n_1 n_2))) | ((with_reducible refine gk_ 89 ?_); refine gl_ (some 28) Try.func89 #[.string t_5] ?_; (with_reducible refine (gafferref03_TakeInts.calls k t_5 t_7 t_8 _ _ A_6.out).mono ?_); rintro e w_2 ⟨v_1, rfl, ho_1, hb⟩; refine ⟨_, rfl, ?_⟩; have HO_1 := a_ (Kd.R_lower ho_1 (below_size (bl_1 HB GE_1))); replace BK_1 := bB_ BK_1 hb; replace HB := hB_ (bl_1 HB GE_1) hb; (try clear hb); (try clear ho_1)) | ((with_reducible refine gk_ 83 ?_); refine gl_ (some 34) Try.func83 #[.string t_8] ?_; (with_reducible refine (gafferref01_TakeText.calls k t_8 t_10 t_11 t_12 _ A_8.out).mono ?_); rintro e w' ⟨rfl, ⟨nd, rfl⟩⟩; refine ⟨_, rfl, ?_⟩; (try (rw [drewN_self w_2]; generalize hq_ : World.drewN w_2 _ = w_2; have n_1 : Aside0 (Kd.R (Kd.int .i64) 3 w_2 w.heap.size (fun _ => True) v_1 t_7) := ⟨by rw [← hq_]; exact (by refine rq_ ?_; exact HO_1.out)⟩; have n_2 : Aside0 (w_2.heap[gb_1]? = some (.cells #[.int .u64 0, .int .u64 0, .slice none 0 0, .string (⟨#[]⟩ : ByteArray)] 35 (0, 0))) := ⟨by rw [← hq_]; exact (bk_ BK_1)⟩; have n_3 : Aside0 (Below w.heap.size w w_2) := ⟨by rw [← hq_]; exact (bl_1 HB GE_1)⟩; clear HO_1 BK_1 HB hq_; have HO_1 := n_1; have BK_1 := n_2; have HB := n_3; clear n_1 n_2 n_3)); obtain ⟨Ao_1, co_1, eo_1⟩ := Kd.R_slice HO_1.out; subst eo_1) | ((with_reducible refine gd_ 13 ?_); refine bx_ 13 #[.int .u64 0, .int .u64 0, .slice none 0 0, .string (⟨#[]⟩ : ByteArray)] 35 ?_; intro gb_2 hg w_3 hbox hb; replace HO_1 := a_ (Kd.R_below (by refine rq_ ?_; exact HO_1.out) hb); have BK_2 := a_ (hbox); have GE_2 := a_ (bs_1 hg HB GE_1); replace HB := hB_ (bl_1 HB GE_1) hb; have NB_1 := nB_ hg BK_1; have NB_2 := nC_ hg BK_1; replace BK_1 := bB_ BK_1 hb; clear hb hbox hg; have hnb_1 := NB_2.out; have hnc_1 := NB_1.out; obtain ⟨_, _, _, _, _, _, _, _⟩ := c4_ BK_2) | (go_at_call 38; (with_reducible refine (gafferref05_Check.calls k t_1 t_4 _ _ t_7 t_10 t_13 _ ?side1 ?side2 A_10.out).mono ?_); (case side1 => refine (Kd.R_reads' (e := 3) (base := w.heap.size) (ok := fun k_ => True) (n := t_7.length) (c := co_1) ?_).2.2; exact (by refine rq_ ?_; exact (Kd.R_mono (Kd.R_far (p := ⟨gb_2, 3, none⟩) (Kd.R_far (p := ⟨gb_2, 2, none⟩) (Kd.R_far (p := ⟨gb_2, 1, none⟩) (Kd.R_far (p := ⟨gb_2, 0, none⟩) (Kd.R_types HO_1.out BK_2.out (by decide)) (fun _ hk => hk.2) (.int .u64 t_1)) (fun _ hk => hk.2) (.int .u64 t_4)) (fun _ hk => hk.2) (.slice Ao_1 t_7.length co_1)) (fun _ hk => hk.2) (.string t_10)) (fun _ h_ => h_.1)))); (case side2 => exact (Kd.R_reads' HO_1.out).2.1); rintro e w_4 ⟨rfl, hb⟩; replace HO_1 := a_ (Kd.R_below (by refine rq_ ?_; exact (Kd.R_mono (Kd.R_far (p := ⟨gb_2, 3, none⟩) (Kd.R_far (p := ⟨gb_2, 2, none⟩) (Kd.R_far (p := ⟨gb_2, 1, none⟩) (Kd.R_far (p := ⟨gb_2, 0, none⟩) (Kd.R_types HO_1.out BK_2.out (by decide)) (fun _ hk => hk.2) (.int .u64 t_1)) (fun _ hk => hk.2) (.int .u64 t_4)) (fun _ hk => hk.2) (.slice Ao_1 t_7.length co_1)) (fun _ hk => hk.2) (.string t_10)) (fun _ h_ => h_.1))) hb); replace BK_1 := a_ (blk_below (g := gb_1) (o := .cells #[.int .u64 0, .int .u64 0, .slice none 0 0, .string (⟨#[]⟩ : ByteArray)] 35 (0, 0)) (bp_1 BK_1 NB_1) hb); replace BK_2 := a_ (blk_below (g := gb_2) (o := .cells #[.int .u64 t_1, .int .u64 t_4, .slice Ao_1 t_7.length co_1, .string t_10] 35 (0, 0)) (bp_0 BK_2) hb); replace HB := hB_ (bl_2 HB GE_1 GE_2) hb; (try clear hb); obtain ⟨_, _, _, _, _, _, _, _⟩ := c4_ BK_2; obtain ⟨_, _, _, _, _, _, _, _⟩ := c4_ BK_1))
     refine bodyPost_ret (results_ctt rfl _ _ gb_1 35 #[.int .u64 t_1, .int .u64 t_4, .slice Ao_1 t_7.length co_1, .string t_10] (0, 0) _ rfl (bp_0 BK_1) Try.underlying35 rfl (by kernel_rfl)) rfl ?_
     exact ⟨_, fz_, by refine rq_ ?_; exact Kd.R_mono (Kd.R_far (p := ⟨gb_1, 3, none⟩) (Kd.R_far (p := ⟨gb_1, 2, none⟩) (Kd.R_far (p := ⟨gb_1, 1, none⟩) (Kd.R_far (p := ⟨gb_1, 0, none⟩) (Kd.R_types HO_1.out BK_1.out (by decide)) (fun _ hk => hk.2) (.int .u64 t_1)) (fun _ hk => hk.2) (.int .u64 t_4)) (fun _ hk => hk.2) (.slice Ao_1 t_7.length co_1)) (fun _ hk => hk.2) (.string t_10)) (fun _ hk => trivial), bl_2 HB GE_1 GE_2⟩)

def gafferref05_Decode.f (k : Nat) (a0 : ByteArray) : Option (Int × Int × List Int × ByteArray × Int) := (gafferref05_Take.f k a0).bind fun bt379 => (if bt379.2.2.2.2.2 = true then (if bt379.2.2.2.2.1.toList = ([] : List UInt8) then (some (bt379.1, bt379.2.1, bt379.2.2.1, bt379.2.2.2.1, 0)) else (some (0, 0, ([] : List Int), (⟨#[]⟩ : ByteArray), 4))) else (some (0, 0, ([] : List Int), (⟨#[]⟩ : ByteArray), 4)))
theorem gafferref05_Decode.mono : ∀ a0 k, LeO (gafferref05_Decode.f k a0) (gafferref05_Decode.f (k + 1) a0) := by
 intro a0 k
 unfold gafferref05_Decode.f
 repeat' with_reducible first | apply gafferref05_Take.mono | apply LeO.refl | apply LeO.none | apply LeO.ite | refine LeO.bind ?_ (fun _ => ?_)
theorem gafferref05_Decode.calls (k : Nat) (a0 : ByteArray) (r1 : Int) (r2 : Int) (r3 : List Int) (r4 : ByteArray) (r5 : Int) (w : World) (h : gafferref05_Decode.f k a0 = some (r1, r2, r3, r4, r5)) :
  Calls Try.prog 64 #[.string a0] w fun e w' => ∃ v2_ : Value, e = .returned (.tuple #[.agg #[.int .u64 r1, .int .u64 r2, v2_, .string r4], .int .i64 r5]) ∧ Kd.R (Kd.int .i64) 3 w' w.heap.size (fun _ => True) v2_ r3 ∧ Below w.heap.size w w' := by
 have hu_1 := Try.underlying35
 have HB := a_ (Below.refl w.heap.size w)
 have H := h
 unfold gafferref05_Decode.f at H
 clear h
 obtain ⟨⟨t_1, t_2, t_3, t_4, t_5, t_6⟩, A_1, H⟩ := Option.bind_eq_some_iff.mp H
 try dsimp only at H
 have A_2 := a_ A_1
 clear A_1
 by_cases c_1 : t_6 = true
 rotate_left
 focus
  replace c_1 := Bool.eq_false_iff.mpr c_1
  subst c_1
  rw [if_neg (show ¬ (false = true) by decide)] at H
  simp only [Option.some.injEq, Prod.mk.injEq] at H
  obtain ⟨rfl, rfl, rfl, rfl, rfl⟩ := H
  have L0_ := trivial
 rotate_left
 focus
  subst c_1
  rw [if_pos rfl] at H
  by_cases c_2 : t_5.toList = ([] : List UInt8)
  rotate_left
  focus
   rw [if_neg c_2] at H
   have c_3 : (t_5.toList == ([] : List UInt8)) = false := beq_eq_false_iff_ne.mpr c_2
   have c_4 : (t_5.toList != ([] : List UInt8)) = true := bne_iff_ne.mpr c_2
   simp only [Option.some.injEq, Prod.mk.injEq] at H
   obtain ⟨rfl, rfl, rfl, rfl, rfl⟩ := H
   have L0_ := trivial
  rotate_left
  rw [if_pos c_2] at H
  have c_3 : (t_5.toList == ([] : List UInt8)) = true := beq_iff_eq.mpr c_2
  have c_4 : (t_5.toList != ([] : List UInt8)) = false := bne_eq_false_iff_eq.mpr c_2
  clear c_2
  simp only [Option.some.injEq, Prod.mk.injEq] at H
  obtain ⟨rfl, rfl, rfl, rfl, rfl⟩ := H
  have L1_ := trivial
 all_goals
  go_enter Try.func64, Try.ntmps64
  go_wp2_with (first | ((with_reducible refine gd_ 2 ?_); refine bx_ 2 #[.int .u64 0, .int .u64 0, .slice none 0 0, .string (⟨#[]⟩ : ByteArray)] 35 ?_; intro gb_1 hg w_1 hbox hb; have BK_1 := a_ (hbox); have GE_1 := a_ (bs_0 hg HB); replace HB := hB_ (bl_ HB) hb; clear hb hbox hg) | ((with_reducible refine gk_ 84 ?_); refine gl_ (some 9) Try.func84 #[.string a0] ?_; (with_reducible refine (gafferref05_Take.calls k a0 t_1 t_2 t_3 t_4 t_5 _ _ A_2.out).mono ?_); rintro e w_2 ⟨v_1, rfl, ho_1, hb⟩; refine ⟨_, rfl, ?_⟩; have HO_1 := a_ (Kd.R_lower ho_1 (below_size (bl_1 HB GE_1))); replace BK_1 := bB_ BK_1 hb; replace HB := hB_ (bl_1 HB GE_1) hb; (try clear hb); (try clear ho_1)) | ((with_reducible refine gd_ 4 ?_); refine bx_ 4 #[.int .u64 0, .int .u64 0, .slice none 0 0, .string (⟨#[]⟩ : ByteArray)] 35 ?_; intro gb_2 hg w_3 hbox hb; replace HO_1 := a_ (Kd.R_below (by refine rq_ ?_; exact HO_1.out) hb); have BK_2 := a_ (hbox); have GE_2 := a_ (bs_1 hg HB GE_1); replace HB := hB_ (bl_1 HB GE_1) hb; have NB_1 := nB_ hg BK_1; have NB_2 := nC_ hg BK_1; replace BK_1 := bB_ BK_1 hb; clear hb hbox hg; have hnb_1 := NB_2.out; have hnc_1 := NB_1.out; obtain ⟨_, _, _, _, _, _, _, _⟩ := c4_ BK_2; obtain ⟨Ao_1, co_1, eo_1⟩ := Kd.R_slice HO_1.out; subst eo_1; obtain ⟨_, _, _, _, _, _, _, _⟩ := c4_ BK_1))
  first
  | (have _ := L0_
     refine bodyPost_ret (results_ct rfl _ _ gb_1 35 #[.int .u64 0, .int .u64 0, .slice none 0 0, .string (⟨#[]⟩ : ByteArray)] (0, 0) _ rfl (bp_1 BK_1 NB_1) Try.underlying35 rfl (by kernel_rfl)) rfl ?_
     exact ⟨_, fz_, by first | exact Kd.R_nil _ _ _ _ _ | exact Kd.N_nil _ _ _ _ _ | exact Kd.V_nil _ _ _ _ _ | exact Kd.Q_nil _ _ _ _ _ | exact Kd.S_nil _ _ _ _ _, bl_2 HB GE_1 GE_2⟩)
  | (have _ := L1_
     refine bodyPost_ret (results_ct rfl _ _ gb_1 35 #[.int .u64 t_1, .int .u64 t_2, .slice Ao_1 t_3.length co_1, .string t_4] (0, 0) _ rfl (bp_1 BK_1 NB_1) Try.underlying35 rfl (by kernel_rfl)) rfl ?_
     exact ⟨_, fz_, by refine rq_ ?_; exact Kd.R_mono (Kd.R_far (p := ⟨gb_1, 3, none⟩) (Kd.R_far (p := ⟨gb_1, 2, none⟩) (Kd.R_far (p := ⟨gb_1, 1, none⟩) (Kd.R_far (p := ⟨gb_1, 0, none⟩) (Kd.R_far (p := ⟨gb_2, 3, none⟩) (Kd.R_far (p := ⟨gb_2, 2, none⟩) (Kd.R_far (p := ⟨gb_2, 1, none⟩) (Kd.R_far (p := ⟨gb_2, 0, none⟩) (Kd.R_types (Kd.R_types HO_1.out BK_2.out (by decide)) BK_1.out (by decide)) (fun _ hk => hk.1.2) (.int .u64 t_1)) (fun _ hk => hk.1.2) (.int .u64 t_2)) (fun _ hk => hk.1.2) (.slice Ao_1 t_3.length co_1)) (fun _ hk => hk.1.2) (.string t_4)) (fun _ hk => hk.2) (.int .u64 t_1)) (fun _ hk => hk.2) (.int .u64 t_2)) (fun _ hk => hk.2) (.slice Ao_1 t_3.length co_1)) (fun _ hk => hk.2) (.string t_4)) (fun _ hk => trivial), bl_2 HB GE_1 GE_2⟩)

theorem keep_blk58 {w w' : World} {g i : Nat} {o : Obj} (h : KeepBut w w' g none) (hi : i ≠ g) (hb : w.heap[i]? = some o) : w'.heap[i]? = some o := (h.2 i (blk_lt hb) hi (by simp)).trans hb
theorem isS58_cell {w0 W : World} {g : Nat} {f0 : ByteArray} {f1 : Bool} (h : IsS58 w0 W g f0 f1) : W.cell? ⟨g, 0, none⟩ = some (.string f0) ∧ W.cell? ⟨g, 1, none⟩ = some (.bool f1) ∧ W.frozen? ⟨g, 0, none⟩ = false ∧ W.frozen? ⟨g, 1, none⟩ = false := ⟨(blk_cell h.1 0).trans rfl, (blk_cell h.1 1).trans rfl, blk_frozen h.1 0, blk_frozen h.1 1⟩
theorem alloc_new58 (w : World) (o : Obj) : (w.alloc o).heap[w.heap.size]? = some o := by simp [World.alloc, -World.alloc_eq]
theorem info67b : (Try.prog.info? 67).map (fun i => (i.zero, i.size, i.bytes)) = some (some (.agg #[.int .u64 0, .int .u64 0, .int .u8 0, .string (⟨#[]⟩ : ByteArray), .slice none 0 0]), 5, 64) := by kernel_rfl
theorem blk_types58 {w : World} {g g' : Nat} {cs cs' : Array Value} {t t' : TypeId} {fr fr' : Nat × Nat} (h : w.heap[g]? = some (.cells cs t fr)) (h' : w.heap[g']? = some (.cells cs' t' fr')) (ht : t ≠ t') : g ≠ g' := fun e => by
 subst e; rw [h] at h'; injection h' with h'; injection h' with _ h'; exact ht h'
def gafferref13_parts.l0 : Nat → Int → Int → ByteArray → Bool → List S67 → Option (List S67 × ByteArray × Bool)
 | 0, _, _, _, _, _ => none
 | k + 1, n, i, s, b, l => if i < n then (if b = true then some (l, s, b) else (if l.length ≤ 1000 then ((gafferref09_Bag_Text.f k s b).bind fun x => (gafferref03_Decode.f k x.1).bind fun e => gafferref13_parts.l0 k n (IntKind.u64.wrap (i + 1)) x.2.1 (x.2.2 || (e.2.2.2.2.2 != 0)) (l ++ [⟨e.1, e.2.1, e.2.2.1, e.2.2.2.1, e.2.2.2.2.1⟩])) else none)) else some (l, s, b)
def gafferref13_parts.f (k : Nat) (s : ByteArray) (b : Bool) (q t : Int) : Option (Int × Int × Int × Int × Int × Bool × List S67 × Int × Int × List Int × ByteArray × ByteArray × Bool) := if q = 1 then ((gafferref09_Bag_Number.f k s b).bind fun z => (gafferref09_Bag_Number.f k z.2.1 z.2.2).bind fun u => some (1, t, z.1, u.1, 0, false, [], 0, 0, [], ⟨#[]⟩, u.2.1, u.2.2)) else (if q = 2 then ((gafferref13_flagged.f k s b).bind fun z => some (2, t, 0, 0, 0, z.1, [], 0, 0, [], ⟨#[]⟩, z.2.1, z.2.2)) else (if q = 3 then ((gafferref09_Bag_Number.f k s b).bind fun z => (gafferref09_Bag_Number.f k z.2.1 z.2.2).bind fun u => (gafferref09_Bag_Number.f k u.2.1 u.2.2).bind fun v => (gafferref09_Bag_Number.f k v.2.1 v.2.2).bind fun n => (gafferref13_parts.l0 k n.1 0 n.2.1 (n.2.2 || decide (n.1 > 8)) []).bind fun e => some (3, t, z.1, u.1, v.1, false, e.1, 0, 0, [], ⟨#[]⟩, e.2.1, e.2.2)) else (if q = 4 then ((gafferref13_flagged.f k s b).bind fun z => (gafferref09_Bag_Number.f k z.2.1 z.2.2).bind fun u => some (4, t, u.1, 0, 0, z.1, [], 0, 0, [], ⟨#[]⟩, u.2.1, u.2.2)) else (if q = 5 then ((gafferref09_Bag_Text.f k s b).bind fun z => (gafferref05_Decode.f k z.1).bind fun e => some (5, t, 0, 0, 0, false, [], e.1, e.2.1, e.2.2.1, e.2.2.2.1, z.2.1, (z.2.2 || (e.2.2.2.2 != 0)))) else some (q, t, 0, 0, 0, false, [], 0, 0, [], ⟨#[]⟩, s, true)))))
theorem gafferref13_parts.mono_l : ∀ k n i s b l, LeO (gafferref13_parts.l0 k n i s b l) (gafferref13_parts.l0 (k + 1) n i s b l)
 | 0 => fun _ _ _ _ _ r h => by simp [gafferref13_parts.l0] at h
 | k + 1 => by
  have ih := gafferref13_parts.mono_l k
  intro n i s b l
  unfold gafferref13_parts.l0
  repeat' with_reducible first | apply gafferref09_Bag_Text.mono | apply gafferref03_Decode.mono | exact ih _ _ _ _ _ | apply LeO.refl | apply LeO.none | apply LeO.ite | refine LeO.bind ?_ (fun _ => ?_)
theorem gafferref13_parts.mono : ∀ a0 a1 a2 a3 k, LeO (gafferref13_parts.f k a0 a1 a2 a3) (gafferref13_parts.f (k + 1) a0 a1 a2 a3) := by
 intro a0 a1 a2 a3 k
 unfold gafferref13_parts.f
 repeat' with_reducible first | apply gafferref09_Bag_Number.mono | apply gafferref09_Bag_Text.mono | apply gafferref13_flagged.mono | apply gafferref05_Decode.mono | exact gafferref13_parts.mono_l _ _ _ _ _ _ | apply LeO.refl | apply LeO.none | apply LeO.ite | refine LeO.bind ?_ (fun _ => ?_)
theorem gafferref13_parts.fin {w w0 w1 : World} {g gr : Nat} {s : ByteArray} {b : Bool} {V6 V9 : Value} {l6 : List S67} {l9 : List Int} {cs : Array Value} (HO6 : Kd.S k67 67 w1 w.heap.size (fun i => some i ≠ V9.ownBlock) V6 l6) (HO9 : Kd.R (Kd.int .i64) 3 w1 w.heap.size (fun _ => True) V9 l9) (HI : IsS58 w0 w1 g s b) (HB : Below w0.heap.size w0 w1) (KP : KeepBut w w1 g none) (BKr : w1.heap[gr]? = some (.cells cs 37 (0, 0))) (Nr : gr ≠ g) (GMr : w0.heap.size ≤ gr) (GEr : w.heap.size ≤ gr) (u0 u1 u2 u3 u4 u5 u6 u7 u8 u9 u10 : Value) :
  Kd.S k67 67 (World.setCell (World.setCell (World.setCell (World.setCell (World.setCell (World.setCell (World.setCell (World.setCell (World.setCell (World.setCell (World.setCell w1 ⟨gr, 0, none⟩ u0) ⟨gr, 1, none⟩ u1) ⟨gr, 2, none⟩ u2) ⟨gr, 3, none⟩ u3) ⟨gr, 4, none⟩ u4) ⟨gr, 5, none⟩ u5) ⟨gr, 6, none⟩ u6) ⟨gr, 7, none⟩ u7) ⟨gr, 8, none⟩ u8) ⟨gr, 9, none⟩ u9) ⟨gr, 10, none⟩ u10) w.heap.size (fun i => some i ≠ V9.ownBlock) V6 l6 ∧ Kd.R (Kd.int .i64) 3 (World.setCell (World.setCell (World.setCell (World.setCell (World.setCell (World.setCell (World.setCell (World.setCell (World.setCell (World.setCell (World.setCell w1 ⟨gr, 0, none⟩ u0) ⟨gr, 1, none⟩ u1) ⟨gr, 2, none⟩ u2) ⟨gr, 3, none⟩ u3) ⟨gr, 4, none⟩ u4) ⟨gr, 5, none⟩ u5) ⟨gr, 6, none⟩ u6) ⟨gr, 7, none⟩ u7) ⟨gr, 8, none⟩ u8) ⟨gr, 9, none⟩ u9) ⟨gr, 10, none⟩ u10) w.heap.size (fun _ => True) V9 l9 ∧ IsS58 w0 (World.setCell (World.setCell (World.setCell (World.setCell (World.setCell (World.setCell (World.setCell (World.setCell (World.setCell (World.setCell (World.setCell w1 ⟨gr, 0, none⟩ u0) ⟨gr, 1, none⟩ u1) ⟨gr, 2, none⟩ u2) ⟨gr, 3, none⟩ u3) ⟨gr, 4, none⟩ u4) ⟨gr, 5, none⟩ u5) ⟨gr, 6, none⟩ u6) ⟨gr, 7, none⟩ u7) ⟨gr, 8, none⟩ u8) ⟨gr, 9, none⟩ u9) ⟨gr, 10, none⟩ u10) g s b ∧ Below w0.heap.size w0 (World.setCell (World.setCell (World.setCell (World.setCell (World.setCell (World.setCell (World.setCell (World.setCell (World.setCell (World.setCell (World.setCell w1 ⟨gr, 0, none⟩ u0) ⟨gr, 1, none⟩ u1) ⟨gr, 2, none⟩ u2) ⟨gr, 3, none⟩ u3) ⟨gr, 4, none⟩ u4) ⟨gr, 5, none⟩ u5) ⟨gr, 6, none⟩ u6) ⟨gr, 7, none⟩ u7) ⟨gr, 8, none⟩ u8) ⟨gr, 9, none⟩ u9) ⟨gr, 10, none⟩ u10) ∧ KeepBut w (World.setCell (World.setCell (World.setCell (World.setCell (World.setCell (World.setCell (World.setCell (World.setCell (World.setCell (World.setCell (World.setCell w1 ⟨gr, 0, none⟩ u0) ⟨gr, 1, none⟩ u1) ⟨gr, 2, none⟩ u2) ⟨gr, 3, none⟩ u3) ⟨gr, 4, none⟩ u4) ⟨gr, 5, none⟩ u5) ⟨gr, 6, none⟩ u6) ⟨gr, 7, none⟩ u7) ⟨gr, 8, none⟩ u8) ⟨gr, 9, none⟩ u9) ⟨gr, 10, none⟩ u10) g none := by
 refine ⟨Kd.S_mono (ok := fun i => some i ≠ V9.ownBlock ∧ i ≠ gr) ?_ (fun _ hk => hk.1), Kd.R_mono (ok := fun i => True ∧ i ≠ gr) ?_ (fun _ _ => trivial), ?_, ?_, ?_⟩
 · (iterate 11 refine Kd.S_far (p := ⟨gr, _, none⟩) ?_ (fun _ hk => hk.2) _); exact Kd.S_types HO6 BKr (by decide)
 · (iterate 11 refine Kd.R_far (p := ⟨gr, _, none⟩) ?_ (fun _ hk => hk.2) _); exact Kd.R_types HO9 BKr (by decide)
 · (iterate 11 refine IsS58.far (p := ⟨gr, _, none⟩) ?_ (Ne.symm Nr) _); exact HI
 · (iterate 11 refine Below.setCell (p := ⟨gr, _, none⟩) ?_ GMr _); exact HB
 · (iterate 11 refine keep_far (p := ⟨gr, _, none⟩) ?_ GEr _); exact KP
set_option maxHeartbeats 80000000 in
set_option maxRecDepth 100000 in
theorem gafferref13_parts.walk (k g : Nat) (s : ByteArray) (b : Bool) (q t : Int) (r1 r2 r3 r4 r5 : Int) (r6 : Bool) (r7 : List S67) (r8 r9 : Int) (r10 : List Int) (r11 r12 : ByteArray) (r13 : Bool) (w0 w : World) (Post : Ending → World → Prop) (hI : IsS58 w0 w g s b) (hB : Below w0.heap.size w0 w) (h : gafferref13_parts.f k s b q t = some (r1, r2, r3, r4, r5, r6, r7, r8, r9, r10, r11, r12, r13))
  (hP : ∀ v6 v9 w', Kd.S k67 67 w' w.heap.size (fun i => some i ≠ v9.ownBlock) v6 r7 → Kd.R (Kd.int .i64) 3 w' w.heap.size (fun _ => True) v9 r10 → IsS58 w0 w' g r12 r13 → Below w0.heap.size w0 w' → KeepBut w w' g none → Post (.returned (.agg #[.int .u8 r1, .int .u64 r2, .int .u64 r3, .int .u64 r4, .int .u64 r5, .bool r6, v6, .int .u64 r8, .int .u64 r9, v9, .string r11])) w') :
  Calls Try.prog 32 #[.pointer (some ⟨g, 0, none⟩), .agg #[.int .u8 q, .int .u64 t, .int .u64 0, .int .u64 0, .int .u64 0, .bool false, .slice none 0 0, .int .u64 0, .int .u64 0, .slice none 0 0, .string (⟨#[]⟩ : ByteArray)]] w Post := by
 have HI := a_ hI
 have HB := a_ hB
 have HBW := a_ hB.size
 have HG := a_ hI.lt
 have KP := a_ (KeepBut.refl w g none)
 have HP := a_ hP
 have H := h
 unfold gafferref13_parts.f at H
 clear hI hB h hP
 go_enter Try.func32, Try.ntmps32
 go_upto_region 1 with (first | ((with_reducible refine gd_ 3 ?_); refine bx_ 3 #[.int .u8 q, .int .u64 t, .int .u64 0, .int .u64 0, .int .u64 0, .bool false, .slice none 0 0, .int .u64 0, .int .u64 0, .slice none 0 0, .string (⟨#[]⟩ : ByteArray)] 37 ?_; intro gm hg w_ hbox hb; have BKm := a_ hbox; have Nm := a_ (show gm ≠ g from by rw [hg]; exact Nat.ne_of_gt (Nat.lt_of_lt_of_le HG.out (by first | exact Nat.le_refl _ | exact KP.out.1))); have GEm := a_ (show w.heap.size ≤ gm from by rw [hg]; first | exact Nat.le_refl _ | exact KP.out.1); have GMm := a_ (show w0.heap.size ≤ gm from by rw [hg]; exact HB.out.size);  replace KP := a_ (KP.out.trans (KeepBut.of_below hb g none) (.inl rfl)); replace HI := a_ (IsS58.below HI.out hb); replace HB := a_ (HB.out.trans (below_up hb HB.out.size)); clear hb hbox hg) | ((with_reducible refine gd_ 4 ?_); refine bx_ 4 #[.int .u8 0, .int .u64 0, .int .u64 0, .int .u64 0, .int .u64 0, .bool false, .slice none 0 0, .int .u64 0, .int .u64 0, .slice none 0 0, .string (⟨#[]⟩ : ByteArray)] 37 ?_; intro gr hg w_ hbox hb; have BKr := a_ hbox; have Nr := a_ (show gr ≠ g from by rw [hg]; exact Nat.ne_of_gt (Nat.lt_of_lt_of_le HG.out (by first | exact Nat.le_refl _ | exact KP.out.1))); have GEr := a_ (show w.heap.size ≤ gr from by rw [hg]; first | exact Nat.le_refl _ | exact KP.out.1); have GMr := a_ (show w0.heap.size ≤ gr from by rw [hg]; exact HB.out.size);  have NBm_r := nB_ hg BKm; have NBr_m := nC_ hg BKm; replace BKm := bB_ BKm hb; replace KP := a_ (KP.out.trans (KeepBut.of_below hb g none) (.inl rfl)); replace HI := a_ (IsS58.below HI.out hb); replace HB := a_ (HB.out.trans (below_up hb HB.out.size)); clear hb hbox hg))
 have NBr_m := NBm_r
 have hx0 := (blk_cell BKm.out 0).trans rfl
 by_cases c1 : q = 1
 focus
  subst c1
  rw [if_pos rfl] at H
  replace H := Option.bind_eq_some_iff.mp H
  obtain ⟨⟨x3, s3, b3⟩, h3, H⟩ := H
  dsimp only at H
  replace H := Option.bind_eq_some_iff.mp H
  obtain ⟨⟨x4, s4, b4⟩, h4, H⟩ := H
  dsimp only at H
  simp only [Option.some.injEq, Prod.mk.injEq] at H
  obtain ⟨rfl, rfl, rfl, rfl, rfl, rfl, rfl, rfl, rfl, rfl, rfl, rfl, rfl⟩ := H
  have A3 := a_ h3
  have A4 := a_ h4
  clear h3 h4
  go_upto_region 5 with (go_at_call 31; (with_reducible refine (gafferref09_Bag_Number.calls k g s b x3 s3 b3 w0 _ HI.out HB.out A3.out).mono ?_); rintro e w4 ⟨rfl, hi, hb, hk⟩; replace HI := a_ hi; replace HB := a_ hb; replace BKm := a_ (keep_blk58 hk Nm.out BKm.out); replace BKr := a_ (keep_blk58 hk Nr.out BKr.out); replace KP := a_ (KP.out.trans hk (.inl rfl)); clear hi hb hk; have hm_2 := (blk_cell BKm.out 2).trans rfl; have hf_2 := blk_frozen BKm.out 2)
  refine gen_world (fun w1 => w1.heap[gm]? = some (.cells #[.int .u8 1, .int .u64 t, .int .u64 x3, .int .u64 0, .int .u64 0, .bool false, .slice none 0 0, .int .u64 0, .int .u64 0, .slice none 0 0, .string (⟨#[]⟩ : ByteArray)] 37 (0, 0)) ∧ w1.heap[gr]? = some (.cells #[.int .u8 0, .int .u64 0, .int .u64 0, .int .u64 0, .int .u64 0, .bool false, .slice none 0 0, .int .u64 0, .int .u64 0, .slice none 0 0, .string (⟨#[]⟩ : ByteArray)] 37 (0, 0)) ∧ IsS58 w0 w1 g _ _ ∧ Below w0.heap.size w0 w1 ∧ KeepBut w w1 g none) ⟨?_, (by (iterate 1 refine blk_far (p := ⟨gm, _, none⟩) ?_ NBm_r.out.symm _); exact BKr.out), (by (iterate 1 refine IsS58.far (p := ⟨gm, _, none⟩) ?_ (Ne.symm Nm.out) _); exact HI.out), (by (iterate 1 refine Below.setCell (p := ⟨gm, _, none⟩) ?_ GMm.out _); exact HB.out), (by (iterate 1 refine keep_far (p := ⟨gm, _, none⟩) ?_ GEm.out _); exact KP.out)⟩ ?_
  · refine Eq.trans (blk_set BKm.out 2 _) ?_
    simp only [List.setIfInBounds_toArray, List.set_cons_zero, List.set_cons_succ]
  clear BKm BKr HI HB KP
  rintro w1 ⟨BKm, BKr, HI, HB, KP⟩
  replace BKm := a_ BKm
  replace BKr := a_ BKr
  replace HI := a_ HI
  replace HB := a_ HB
  replace KP := a_ KP
  go_upto_region 30 with (go_at_call 31; (with_reducible refine (gafferref09_Bag_Number.calls k g s3 b3 x4 s4 b4 w0 _ HI.out HB.out A4.out).mono ?_); rintro e w4 ⟨rfl, hi, hb, hk⟩; replace HI := a_ hi; replace HB := a_ hb; replace BKm := a_ (keep_blk58 hk Nm.out BKm.out); replace BKr := a_ (keep_blk58 hk Nr.out BKr.out); replace KP := a_ (KP.out.trans hk (.inl rfl)); clear hi hb hk; have hm_3 := (blk_cell BKm.out 3).trans rfl; have hf_3 := blk_frozen BKm.out 3)
  refine gen_world (fun w1 => w1.heap[gm]? = some (.cells #[.int .u8 1, .int .u64 t, .int .u64 x3, .int .u64 x4, .int .u64 0, .bool false, .slice none 0 0, .int .u64 0, .int .u64 0, .slice none 0 0, .string (⟨#[]⟩ : ByteArray)] 37 (0, 0)) ∧ w1.heap[gr]? = some (.cells #[.int .u8 0, .int .u64 0, .int .u64 0, .int .u64 0, .int .u64 0, .bool false, .slice none 0 0, .int .u64 0, .int .u64 0, .slice none 0 0, .string (⟨#[]⟩ : ByteArray)] 37 (0, 0)) ∧ IsS58 w0 w1 g _ _ ∧ Below w0.heap.size w0 w1 ∧ KeepBut w w1 g none) ⟨?_, (by (iterate 1 refine blk_far (p := ⟨gm, _, none⟩) ?_ NBm_r.out.symm _); exact BKr.out), (by (iterate 1 refine IsS58.far (p := ⟨gm, _, none⟩) ?_ (Ne.symm Nm.out) _); exact HI.out), (by (iterate 1 refine Below.setCell (p := ⟨gm, _, none⟩) ?_ GMm.out _); exact HB.out), (by (iterate 1 refine keep_far (p := ⟨gm, _, none⟩) ?_ GEm.out _); exact KP.out)⟩ ?_
  · refine Eq.trans (blk_set BKm.out 3 _) ?_
    simp only [List.setIfInBounds_toArray, List.set_cons_zero, List.set_cons_succ]
  clear BKm BKr HI HB KP
  rintro w1 ⟨BKm, BKr, HI, HB, KP⟩
  replace BKm := a_ BKm
  replace BKr := a_ BKr
  replace HI := a_ HI
  replace HB := a_ HB
  replace KP := a_ KP
  have HO6 := a_ (Kd.S_nil k67 67 w1 w.heap.size (fun i => some i ≠ (Value.slice none 0 0).ownBlock))
  have HO9 := a_ (Kd.R_nil (Kd.int .i64) 3 w1 w.heap.size (fun _ => True))
 rotate_left 1
 rw [if_neg c1] at H
 by_cases c2 : q = 2
 focus
  subst c2
  rw [if_pos rfl] at H
  replace H := Option.bind_eq_some_iff.mp H
  obtain ⟨⟨x3, s3, b3⟩, h3, H⟩ := H
  dsimp only at H
  simp only [Option.some.injEq, Prod.mk.injEq] at H
  obtain ⟨rfl, rfl, rfl, rfl, rfl, rfl, rfl, rfl, rfl, rfl, rfl, rfl, rfl⟩ := H
  have A3 := a_ h3
  clear h3
  go_upto_region 30 with (go_at_call 61; (with_reducible refine (gafferref13_flagged.calls k g s b x3 s3 b3 w0 _ HI.out HB.out A3.out).mono ?_); rintro e w4 ⟨rfl, hi, hb, hk⟩; replace HI := a_ hi; replace HB := a_ hb; replace BKm := a_ (keep_blk58 hk Nm.out BKm.out); replace BKr := a_ (keep_blk58 hk Nr.out BKr.out); replace KP := a_ (KP.out.trans hk (.inl rfl)); clear hi hb hk; have hm_5 := (blk_cell BKm.out 5).trans rfl; have hf_5 := blk_frozen BKm.out 5)
  refine gen_world (fun w1 => w1.heap[gm]? = some (.cells #[.int .u8 2, .int .u64 t, .int .u64 0, .int .u64 0, .int .u64 0, .bool x3, .slice none 0 0, .int .u64 0, .int .u64 0, .slice none 0 0, .string (⟨#[]⟩ : ByteArray)] 37 (0, 0)) ∧ w1.heap[gr]? = some (.cells #[.int .u8 0, .int .u64 0, .int .u64 0, .int .u64 0, .int .u64 0, .bool false, .slice none 0 0, .int .u64 0, .int .u64 0, .slice none 0 0, .string (⟨#[]⟩ : ByteArray)] 37 (0, 0)) ∧ IsS58 w0 w1 g _ _ ∧ Below w0.heap.size w0 w1 ∧ KeepBut w w1 g none) ⟨?_, (by (iterate 1 refine blk_far (p := ⟨gm, _, none⟩) ?_ NBm_r.out.symm _); exact BKr.out), (by (iterate 1 refine IsS58.far (p := ⟨gm, _, none⟩) ?_ (Ne.symm Nm.out) _); exact HI.out), (by (iterate 1 refine Below.setCell (p := ⟨gm, _, none⟩) ?_ GMm.out _); exact HB.out), (by (iterate 1 refine keep_far (p := ⟨gm, _, none⟩) ?_ GEm.out _); exact KP.out)⟩ ?_
  · refine Eq.trans (blk_set BKm.out 5 _) ?_
    simp only [List.setIfInBounds_toArray, List.set_cons_zero, List.set_cons_succ]
  clear BKm BKr HI HB KP
  rintro w1 ⟨BKm, BKr, HI, HB, KP⟩
  replace BKm := a_ BKm
  replace BKr := a_ BKr
  replace HI := a_ HI
  replace HB := a_ HB
  replace KP := a_ KP
  have HO6 := a_ (Kd.S_nil k67 67 w1 w.heap.size (fun i => some i ≠ (Value.slice none 0 0).ownBlock))
  have HO9 := a_ (Kd.R_nil (Kd.int .i64) 3 w1 w.heap.size (fun _ => True))
 rotate_left 1
 rw [if_neg c2] at H
 by_cases c3 : q = 3
 focus
  subst c3
  rw [if_pos rfl] at H
  replace H := Option.bind_eq_some_iff.mp H
  obtain ⟨⟨x3, s3, b3⟩, h3, H⟩ := H
  dsimp only at H
  replace H := Option.bind_eq_some_iff.mp H
  obtain ⟨⟨x4, s4, b4⟩, h4, H⟩ := H
  dsimp only at H
  replace H := Option.bind_eq_some_iff.mp H
  obtain ⟨⟨x5, s5, b5⟩, h5, H⟩ := H
  dsimp only at H
  replace H := Option.bind_eq_some_iff.mp H
  obtain ⟨⟨n, s6, b6⟩, h6, H⟩ := H
  dsimp only at H
  replace H := Option.bind_eq_some_iff.mp H
  obtain ⟨⟨l, s7, b7⟩, h7, H⟩ := H
  dsimp only at H
  simp only [Option.some.injEq, Prod.mk.injEq] at H
  obtain ⟨rfl, rfl, rfl, rfl, rfl, rfl, rfl, rfl, rfl, rfl, rfl, rfl, rfl⟩ := H
  have A3 := a_ h3
  have A4 := a_ h4
  have A5 := a_ h5
  have A6 := a_ h6
  have A7 := a_ h7
  clear h3 h4 h5 h6 h7
  go_upto_region 10 with (go_at_call 31; (with_reducible refine (gafferref09_Bag_Number.calls k g s b x3 s3 b3 w0 _ HI.out HB.out A3.out).mono ?_); rintro e w4 ⟨rfl, hi, hb, hk⟩; replace HI := a_ hi; replace HB := a_ hb; replace BKm := a_ (keep_blk58 hk Nm.out BKm.out); replace BKr := a_ (keep_blk58 hk Nr.out BKr.out); replace KP := a_ (KP.out.trans hk (.inl rfl)); clear hi hb hk; have hm_2 := (blk_cell BKm.out 2).trans rfl; have hf_2 := blk_frozen BKm.out 2)
  refine gen_world (fun w1 => w1.heap[gm]? = some (.cells #[.int .u8 3, .int .u64 t, .int .u64 x3, .int .u64 0, .int .u64 0, .bool false, .slice none 0 0, .int .u64 0, .int .u64 0, .slice none 0 0, .string (⟨#[]⟩ : ByteArray)] 37 (0, 0)) ∧ w1.heap[gr]? = some (.cells #[.int .u8 0, .int .u64 0, .int .u64 0, .int .u64 0, .int .u64 0, .bool false, .slice none 0 0, .int .u64 0, .int .u64 0, .slice none 0 0, .string (⟨#[]⟩ : ByteArray)] 37 (0, 0)) ∧ IsS58 w0 w1 g _ _ ∧ Below w0.heap.size w0 w1 ∧ KeepBut w w1 g none) ⟨?_, (by (iterate 1 refine blk_far (p := ⟨gm, _, none⟩) ?_ NBm_r.out.symm _); exact BKr.out), (by (iterate 1 refine IsS58.far (p := ⟨gm, _, none⟩) ?_ (Ne.symm Nm.out) _); exact HI.out), (by (iterate 1 refine Below.setCell (p := ⟨gm, _, none⟩) ?_ GMm.out _); exact HB.out), (by (iterate 1 refine keep_far (p := ⟨gm, _, none⟩) ?_ GEm.out _); exact KP.out)⟩ ?_
  · refine Eq.trans (blk_set BKm.out 2 _) ?_
    simp only [List.setIfInBounds_toArray, List.set_cons_zero, List.set_cons_succ]
  clear BKm BKr HI HB KP
  rintro w1 ⟨BKm, BKr, HI, HB, KP⟩
  replace BKm := a_ BKm
  replace BKr := a_ BKr
  replace HI := a_ HI
  replace HB := a_ HB
  replace KP := a_ KP
  go_upto_region 11 with (go_at_call 31; (with_reducible refine (gafferref09_Bag_Number.calls k g s3 b3 x4 s4 b4 w0 _ HI.out HB.out A4.out).mono ?_); rintro e w4 ⟨rfl, hi, hb, hk⟩; replace HI := a_ hi; replace HB := a_ hb; replace BKm := a_ (keep_blk58 hk Nm.out BKm.out); replace BKr := a_ (keep_blk58 hk Nr.out BKr.out); replace KP := a_ (KP.out.trans hk (.inl rfl)); clear hi hb hk; have hm_3 := (blk_cell BKm.out 3).trans rfl; have hf_3 := blk_frozen BKm.out 3)
  refine gen_world (fun w1 => w1.heap[gm]? = some (.cells #[.int .u8 3, .int .u64 t, .int .u64 x3, .int .u64 x4, .int .u64 0, .bool false, .slice none 0 0, .int .u64 0, .int .u64 0, .slice none 0 0, .string (⟨#[]⟩ : ByteArray)] 37 (0, 0)) ∧ w1.heap[gr]? = some (.cells #[.int .u8 0, .int .u64 0, .int .u64 0, .int .u64 0, .int .u64 0, .bool false, .slice none 0 0, .int .u64 0, .int .u64 0, .slice none 0 0, .string (⟨#[]⟩ : ByteArray)] 37 (0, 0)) ∧ IsS58 w0 w1 g _ _ ∧ Below w0.heap.size w0 w1 ∧ KeepBut w w1 g none) ⟨?_, (by (iterate 1 refine blk_far (p := ⟨gm, _, none⟩) ?_ NBm_r.out.symm _); exact BKr.out), (by (iterate 1 refine IsS58.far (p := ⟨gm, _, none⟩) ?_ (Ne.symm Nm.out) _); exact HI.out), (by (iterate 1 refine Below.setCell (p := ⟨gm, _, none⟩) ?_ GMm.out _); exact HB.out), (by (iterate 1 refine keep_far (p := ⟨gm, _, none⟩) ?_ GEm.out _); exact KP.out)⟩ ?_
  · refine Eq.trans (blk_set BKm.out 3 _) ?_
    simp only [List.setIfInBounds_toArray, List.set_cons_zero, List.set_cons_succ]
  clear BKm BKr HI HB KP
  rintro w1 ⟨BKm, BKr, HI, HB, KP⟩
  replace BKm := a_ BKm
  replace BKr := a_ BKr
  replace HI := a_ HI
  replace HB := a_ HB
  replace KP := a_ KP
  go_upto_region 12 with (go_at_call 31; (with_reducible refine (gafferref09_Bag_Number.calls k g s4 b4 x5 s5 b5 w0 _ HI.out HB.out A5.out).mono ?_); rintro e w4 ⟨rfl, hi, hb, hk⟩; replace HI := a_ hi; replace HB := a_ hb; replace BKm := a_ (keep_blk58 hk Nm.out BKm.out); replace BKr := a_ (keep_blk58 hk Nr.out BKr.out); replace KP := a_ (KP.out.trans hk (.inl rfl)); clear hi hb hk; have hm_4 := (blk_cell BKm.out 4).trans rfl; have hf_4 := blk_frozen BKm.out 4)
  refine gen_world (fun w1 => w1.heap[gm]? = some (.cells #[.int .u8 3, .int .u64 t, .int .u64 x3, .int .u64 x4, .int .u64 x5, .bool false, .slice none 0 0, .int .u64 0, .int .u64 0, .slice none 0 0, .string (⟨#[]⟩ : ByteArray)] 37 (0, 0)) ∧ w1.heap[gr]? = some (.cells #[.int .u8 0, .int .u64 0, .int .u64 0, .int .u64 0, .int .u64 0, .bool false, .slice none 0 0, .int .u64 0, .int .u64 0, .slice none 0 0, .string (⟨#[]⟩ : ByteArray)] 37 (0, 0)) ∧ IsS58 w0 w1 g _ _ ∧ Below w0.heap.size w0 w1 ∧ KeepBut w w1 g none) ⟨?_, (by (iterate 1 refine blk_far (p := ⟨gm, _, none⟩) ?_ NBm_r.out.symm _); exact BKr.out), (by (iterate 1 refine IsS58.far (p := ⟨gm, _, none⟩) ?_ (Ne.symm Nm.out) _); exact HI.out), (by (iterate 1 refine Below.setCell (p := ⟨gm, _, none⟩) ?_ GMm.out _); exact HB.out), (by (iterate 1 refine keep_far (p := ⟨gm, _, none⟩) ?_ GEm.out _); exact KP.out)⟩ ?_
  · refine Eq.trans (blk_set BKm.out 4 _) ?_
    simp only [List.setIfInBounds_toArray, List.set_cons_zero, List.set_cons_succ]
  clear BKm BKr HI HB KP
  rintro w1 ⟨BKm, BKr, HI, HB, KP⟩
  replace BKm := a_ BKm
  replace BKr := a_ BKr
  replace HI := a_ HI
  replace HB := a_ HB
  replace KP := a_ KP
  go_upto_if 43 with (go_at_call 31; (with_reducible refine (gafferref09_Bag_Number.calls k g s5 b5 n s6 b6 w0 _ HI.out HB.out A6.out).mono ?_); rintro e w4 ⟨rfl, hi, hb, hk⟩; replace HI := a_ hi; replace HB := a_ hb; replace BKm := a_ (keep_blk58 hk Nm.out BKm.out); replace BKr := a_ (keep_blk58 hk Nr.out BKr.out); replace KP := a_ (KP.out.trans hk (.inl rfl)); clear hi hb hk)
  go_cut [] (fun wc => Aside0 (wc.heap[gm]? = some (.cells #[.int .u8 3, .int .u64 t, .int .u64 x3, .int .u64 x4, .int .u64 x5, .bool false, .slice none 0 0, .int .u64 0, .int .u64 0, .slice none 0 0, .string (⟨#[]⟩ : ByteArray)] 37 (0, 0))) ∧ Aside0 (wc.heap[gr]? = some (.cells #[.int .u8 0, .int .u64 0, .int .u64 0, .int .u64 0, .int .u64 0, .bool false, .slice none 0 0, .int .u64 0, .int .u64 0, .slice none 0 0, .string (⟨#[]⟩ : ByteArray)] 37 (0, 0))) ∧ Aside0 (IsS58 w0 wc g s6 (b6 || decide (n > 8))) ∧ Aside0 (Below w0.heap.size w0 wc) ∧ Aside0 (KeepBut w wc g none))
  case first =>
   obtain ⟨hs0, hs1, hf0, hf1⟩ := isS58_cell HI.out
   by_cases hn : n > 8
   · have hn1 : decide (8 < n) = true := decide_eq_true hn
     go_wp2
     go_meet
     rw [decide_eq_true hn, Bool.or_true]
     exact ⟨⟨blk_far BKm.out (p := ⟨g, 1, none⟩) Nm.out _⟩, ⟨blk_far BKr.out (p := ⟨g, 1, none⟩) Nr.out _⟩, ⟨IsS58.set_1 HI.out true⟩, ⟨Below.setCell (p := ⟨g, 1, none⟩) HB.out (IsS58.ge HI.out) _⟩, ⟨KeepBut.set_ KP.out 1 _⟩⟩
   · have hn1 : decide (8 < n) = false := decide_eq_false (by omega)
     go_wp2
     go_meet
     rw [decide_eq_false (show ¬ n > 8 by omega), Bool.or_false]
     exact ⟨BKm, BKr, HI, HB, KP⟩
  case' rest =>
   clear BKm BKr HI HB KP
   obtain ⟨BKm, BKr, HI, HB, KP⟩ := hcut
   generalize (b6 || decide (n > 8)) = bb at *
   go_wp2
   go_loopg [6] k (fun kq v6 w' => ∃ (i : Int) (s : ByteArray) (b : Bool) (l0 : List S67) (v : Value), v6 = .int .u64 i ∧ Aside0 (gafferref13_parts.l0 kq n i s b l0 = some (l, s7, b7)) ∧ Aside0 (kq ≤ k) ∧ Aside0 (w'.heap[gm]? = some (.cells #[.int .u8 3, .int .u64 t, .int .u64 x3, .int .u64 x4, .int .u64 x5, .bool false, v, .int .u64 0, .int .u64 0, .slice none 0 0, .string (⟨#[]⟩ : ByteArray)] 37 (0, 0))) ∧ Aside0 (w'.heap[gr]? = some (.cells #[.int .u8 0, .int .u64 0, .int .u64 0, .int .u64 0, .int .u64 0, .bool false, .slice none 0 0, .int .u64 0, .int .u64 0, .slice none 0 0, .string (⟨#[]⟩ : ByteArray)] 37 (0, 0))) ∧ Aside0 (Kd.S k67 67 w' w.heap.size (fun _ => True) v l0) ∧ Aside0 (IsS58 w0 w' g s b) ∧ Aside0 (Below w0.heap.size w0 w') ∧ Aside0 (KeepBut w w' g none))
   case atStart => exact ⟨0, s6, bb, [], _, rfl, A7, ⟨Nat.le_refl _⟩, BKm, BKr, ⟨Kd.S_nil _ _ _ _ _⟩, HI, HB, KP⟩
   case' round =>
    clear HI HB KP BKm BKr A7
    obtain ⟨i, s', b', l0, v, rfl, HA, HK2, BKm, BKr, HO, HI, HB, KP⟩ := hrel
    obtain ⟨Av, cv, hv⟩ := Kd.S_slice HO.out
    subst hv
    have HO9 := a_ (Kd.R_nil (Kd.int .i64) 3 wr w.heap.size (fun _ => True))
    rcases gk with _ | k2
    · exact absurd HA.out (by simp [gafferref13_parts.l0])
    focus
     have H := HA.out
     clear HA
     simp only [gafferref13_parts.l0] at H
     obtain ⟨hs0, hs1, hf0, hf1⟩ := isS58_cell HI.out
     by_cases ci : i < n
     rotate_left
     focus
      rw [if_neg ci] at H
      have hci : decide (i < n) = false := decide_eq_false ci
      simp only [Option.some.injEq, Prod.mk.injEq] at H
      obtain ⟨rfl, rfl, rfl⟩ := H
      clear hs0 hs1 hf0 hf1 ci
      go_upto_region 30 with fail
      have HO6 := a_ (Kd.S_mono (ok' := fun i => some i ≠ (Value.slice none 0 0).ownBlock) HO.out (fun _ _ => by simp [Value.ownBlock]))
      clear HO
     rotate_left
     focus
      rw [if_pos ci] at H
      have hci : decide (i < n) = true := decide_eq_true ci
      cases b'
      rotate_left
      focus
       rw [if_pos rfl] at H
       simp only [Option.some.injEq, Prod.mk.injEq] at H
       obtain ⟨rfl, rfl, rfl⟩ := H
       go_upto_region 30 with fail
       have HO6 := a_ (Kd.S_mono (ok' := fun i => some i ≠ (Value.slice none 0 0).ownBlock) HO.out (fun _ _ => by simp [Value.ownBlock]))
       clear HO
      rotate_left
      focus
       rw [if_neg (by decide)] at H
       by_cases c9 : l0.length ≤ 1000
       rotate_left
       · rw [if_neg c9] at H
         exact absurd H (by simp)
       rw [if_pos c9] at H
       replace H := Option.bind_eq_some_iff.mp H
       obtain ⟨⟨x, s8, b8⟩, AT, H⟩ := H
       replace H := Option.bind_eq_some_iff.mp H
       obtain ⟨⟨e0, e1, e2, e3, e4, why⟩, AE, H⟩ := H
       dsimp only at AE H
       replace AT := a_ AT
       replace AE := a_ AE
       have LN := a_ c9
       have HN := a_ H
       clear H c9 HO9
       go_upto_if 66 with (first | (go_at_call 63; (with_reducible refine (gafferref09_Bag_Text.calls k2 g s' false x s8 b8 w0 _ HI.out HB.out AT.out).mono ?_); rintro e w5 ⟨rfl, hi, hb, hk⟩; replace HO := a_ (Kd.S_mono (ok' := fun _ => True) (Kd.S_keep (IsS58.apartS HI.out HO.out (by decide)) hk (fun _ h => h.2)) (fun _ _ => trivial)); replace HI := a_ hi; replace HB := a_ hb; replace BKm := a_ (keep_blk58 hk Nm.out BKm.out); replace BKr := a_ (keep_blk58 hk Nr.out BKr.out); replace KP := a_ (KP.out.trans hk (.inl rfl)); clear hi hb hk) | (go_at_call 62; (with_reducible refine (gafferref03_Decode.calls k2 x e0 e1 e2 e3 e4 why _ AE.out).mono ?_); rintro e w6 ⟨ve, rfl, ho, hb⟩; have HR := a_ (Kd.R_mono (Kd.R_bound ho) (fun _ hk => hk.2.1)); obtain ⟨Ae, ce, hve⟩ := Kd.R_slice ho; subst hve; have HW6 := a_ hb.size; replace BKm := bB_ BKm hb; replace BKr := bB_ BKr hb; replace HI := a_ (IsS58.below HI.out hb); replace HB := a_ (HB.out.trans (below_up hb HB.out.size)); replace HO := a_ (Kd.S_old HO.out hb); have KPS := a_ KP.out.1; replace KP := a_ (KP.out.trans (KeepBut.of_below hb g none) (.inl rfl)); clear ho hb))
       refine gen_world (fun w1 => w1.heap[w6.heap.size]? = some (.cells #[.int .u64 e0, .int .u64 e1, .int .u8 e2, .string e3, .slice Ae e4.length ce] 67 (0, 0)) ∧ w1.heap[gm]? = some (.cells #[.int .u8 3, .int .u64 t, .int .u64 x3, .int .u64 x4, .int .u64 x5, .bool false, .slice Av l0.length cv, .int .u64 0, .int .u64 0, .slice none 0 0, .string (⟨#[]⟩ : ByteArray)] 37 (0, 0)) ∧ w1.heap[gr]? = some (.cells #[.int .u8 0, .int .u64 0, .int .u64 0, .int .u64 0, .int .u64 0, .bool false, .slice none 0 0, .int .u64 0, .int .u64 0, .slice none 0 0, .string (⟨#[]⟩ : ByteArray)] 37 (0, 0)) ∧ IsS58 w0 w1 g s8 b8 ∧ Below w0.heap.size w0 w1 ∧ KeepBut w w1 g none ∧ Kd.S k67 67 w1 w.heap.size (fun i => True ∧ i < w5.heap.size) (.slice Av l0.length cv) l0 ∧ Kd.R (Kd.int .i64) 3 w1 w.heap.size (fun i => w5.heap.size ≤ i) (.slice Ae e4.length ce) e4 ∧ w5.heap.size ≤ w1.heap.size) ⟨alloc_new58 _ _, blk_alloc BKm.out _, blk_alloc BKr.out _, HI.out.alloc _, HB.out.alloc HB.out.size _, keep_alloc KP.out _, Kd.S_alloc HO.out _, Kd.R_alloc (Kd.R_lower HR.out KPS.out) _, Nat.le_trans HW6.out (by simp [World.alloc, -World.alloc_eq])⟩ ?_
       clear BKm BKr HI HB KP HO HR HW6
       rintro w7 ⟨BKe, BKm, BKr, HI, HB, KP, HO, HR, HW7⟩
       generalize w6.heap.size = ge at *
       generalize w5.heap.size = z5 at *
       go_cut [] (fun wc => Aside0 (wc.heap[ge]? = some (.cells #[.int .u64 e0, .int .u64 e1, .int .u8 e2, .string e3, .slice Ae e4.length ce] 67 (0, 0))) ∧ Aside0 (wc.heap[gm]? = some (.cells #[.int .u8 3, .int .u64 t, .int .u64 x3, .int .u64 x4, .int .u64 x5, .bool false, .slice Av l0.length cv, .int .u64 0, .int .u64 0, .slice none 0 0, .string (⟨#[]⟩ : ByteArray)] 37 (0, 0))) ∧ Aside0 (wc.heap[gr]? = some (.cells #[.int .u8 0, .int .u64 0, .int .u64 0, .int .u64 0, .int .u64 0, .bool false, .slice none 0 0, .int .u64 0, .int .u64 0, .slice none 0 0, .string (⟨#[]⟩ : ByteArray)] 37 (0, 0))) ∧ Aside0 (IsS58 w0 wc g s8 (b8 || (why != 0))) ∧ Aside0 (Below w0.heap.size w0 wc) ∧ Aside0 (KeepBut w wc g none) ∧ Aside0 (Kd.S k67 67 wc w.heap.size (fun i => True ∧ i < z5) (.slice Av l0.length cv) l0) ∧ Aside0 (Kd.R (Kd.int .i64) 3 wc w.heap.size (fun i => z5 ≤ i) (.slice Ae e4.length ce) e4))
       case first =>
        have Nge := IsS58.ne_blk HI BKe (by decide)
        obtain ⟨ha0, ha1, hb0, hb1⟩ := isS58_cell HI
        cases hn : (why != 0)
        · have hn2 : (why == 0) = true := by simpa [bne] using hn
          go_wp2
          go_meet
          rw [hn, Bool.or_false]
          exact ⟨⟨BKe⟩, ⟨BKm⟩, ⟨BKr⟩, ⟨HI⟩, ⟨HB⟩, ⟨KP⟩, ⟨HO⟩, ⟨HR⟩⟩
        · have hn2 : (why == 0) = false := by simpa [bne] using hn
          go_wp2
          go_meet
          rw [hn, Bool.or_true]
          exact ⟨⟨blk_far BKe (p := ⟨g, 1, none⟩) Nge.symm _⟩, ⟨blk_far BKm (p := ⟨g, 1, none⟩) Nm.out _⟩, ⟨blk_far BKr (p := ⟨g, 1, none⟩) Nr.out _⟩, ⟨IsS58.set_1 HI true⟩, ⟨Below.setCell (p := ⟨g, 1, none⟩) HB (IsS58.ge HI) _⟩, ⟨KeepBut.set_ KP 1 _⟩, ⟨Kd.S_mono (Kd.S_far (p := ⟨g, 1, none⟩) (IsS58.apartS HI HO (by decide)) (fun _ hk => hk.2) _) (fun _ hk => hk.1)⟩, ⟨Kd.R_mono (Kd.R_far (p := ⟨g, 1, none⟩) (IsS58.apart HI HR (by decide)) (fun _ hk => hk.2) _) (fun _ hk => hk.1)⟩⟩
       case rest =>
        clear BKe BKm BKr HI HB KP HO HR
        obtain ⟨BKe, BKm, BKr, HI, HB, KP, HO, HR⟩ := hcut
        obtain ⟨he0, he1, he2, he3, he4, -⟩ := c5_ BKe
        have hm6 := (blk_cell BKm.out 6).trans rfl
        have HLT := a_ (fun k hk => ((Kd.S_R HO.out).1 k hk).2)
        go_wp2_with ((with_reducible refine gate_builtin (b := .append) (xs := #[.tmp 71, .tmp 73]) rfl ?_); at_builtin; refine Kd.S_append k67 w.heap.size rfl (.tmp 71) (.tmp 73) 32 67 _ 64 rfl Try.underlying32 info67b rfl (by decide) (by decide) (.slice Av l0.length cv) l0 ⟨e0, e1, e2, e3, e4⟩ [.int .u64 e0, .int .u64 e1, .int .u8 e2, .string e3, .slice Ae e4.length ce] (fun _ => True) (fun i => z5 ≤ i) rfl (by first | (go_simp; done) | (go_simp; rfl)) ?aP ?aQ (fun _ _ => trivial) ?aO (Below.refl _ _) ?aS ?aL ?_; (case aP => exact k67_mkM _ _ _ ⟨e0, e1, e2, e3, e4⟩ HR.out); (case aQ => exact fun k hk => ⟨trivial, fun e => Nat.lt_irrefl _ (Nat.lt_of_lt_of_le (HLT.out k e.symm) hk)⟩); (case aO => exact Kd.S_mono HO.out (fun k hk => ⟨trivial, Nat.not_le_of_lt hk.2⟩)); (case aS => exact KP.out.1); (case aL => have := LN.out; omega); intro v1 w8 ho hb hg hat; obtain ⟨A1, c1_, hv1⟩ := Kd.S_slice ho; rw [List.length_append, List.length_singleton] at hv1; subst hv1; replace KP := a_ (KP.out.trans (KeepBut.of_grown hg g) (Kd.S_base2 HO.out)); replace BKm := a_ (blk_grown BKm.out hg (Kd.S_ne HO.out BKm.out (by decide))); replace BKr := a_ (blk_grown BKr.out hg (Kd.S_ne HO.out BKr.out (by decide))); replace HI := a_ (IsS58.grown HI.out hg (IsS58.own_neS HI.out HO.out (by decide))); replace HB := a_ (below_weaken HB.out HBW.out hb); replace HO := a_ ho; clear ho hb hg hat; have hm7 := (blk_cell BKm.out 6).trans rfl; have hf7 := blk_frozen BKm.out 6)
        go_roundg k2
        case measure => have := HK2.out; omega
        case rel => exact ⟨_, s8, _, _, _, rfl, HN, ⟨by have := HK2.out; omega⟩, ⟨Eq.trans (blk_set BKm.out 6 _) (by simp only [List.setIfInBounds_toArray, List.set_cons_zero, List.set_cons_succ])⟩, ⟨blk_far BKr.out (p := ⟨gm, 6, none⟩) NBm_r.out.symm _⟩, ⟨Kd.S_mono (Kd.S_far (p := ⟨gm, 6, none⟩) (Kd.S_types HO.out BKm.out (by decide)) (fun _ hk => hk.2) _) (fun _ _ => trivial)⟩, ⟨IsS58.far HI.out (p := ⟨gm, 6, none⟩) Nm.out.symm _⟩, ⟨Below.setCell (p := ⟨gm, 6, none⟩) HB.out GMm.out _⟩, ⟨keep_far (p := ⟨gm, 6, none⟩) KP.out GEm.out _⟩⟩
 rotate_left 2
 rw [if_neg c3] at H
 by_cases c4 : q = 4
 focus
  subst c4
  rw [if_pos rfl] at H
  replace H := Option.bind_eq_some_iff.mp H
  obtain ⟨⟨x3, s3, b3⟩, h3, H⟩ := H
  dsimp only at H
  replace H := Option.bind_eq_some_iff.mp H
  obtain ⟨⟨x4, s4, b4⟩, h4, H⟩ := H
  dsimp only at H
  simp only [Option.some.injEq, Prod.mk.injEq] at H
  obtain ⟨rfl, rfl, rfl, rfl, rfl, rfl, rfl, rfl, rfl, rfl, rfl, rfl, rfl⟩ := H
  have A3 := a_ h3
  have A4 := a_ h4
  clear h3 h4
  go_upto_region 24 with (go_at_call 61; (with_reducible refine (gafferref13_flagged.calls k g s b x3 s3 b3 w0 _ HI.out HB.out A3.out).mono ?_); rintro e w4 ⟨rfl, hi, hb, hk⟩; replace HI := a_ hi; replace HB := a_ hb; replace BKm := a_ (keep_blk58 hk Nm.out BKm.out); replace BKr := a_ (keep_blk58 hk Nr.out BKr.out); replace KP := a_ (KP.out.trans hk (.inl rfl)); clear hi hb hk; have hm_5 := (blk_cell BKm.out 5).trans rfl; have hf_5 := blk_frozen BKm.out 5)
  refine gen_world (fun w1 => w1.heap[gm]? = some (.cells #[.int .u8 4, .int .u64 t, .int .u64 0, .int .u64 0, .int .u64 0, .bool x3, .slice none 0 0, .int .u64 0, .int .u64 0, .slice none 0 0, .string (⟨#[]⟩ : ByteArray)] 37 (0, 0)) ∧ w1.heap[gr]? = some (.cells #[.int .u8 0, .int .u64 0, .int .u64 0, .int .u64 0, .int .u64 0, .bool false, .slice none 0 0, .int .u64 0, .int .u64 0, .slice none 0 0, .string (⟨#[]⟩ : ByteArray)] 37 (0, 0)) ∧ IsS58 w0 w1 g _ _ ∧ Below w0.heap.size w0 w1 ∧ KeepBut w w1 g none) ⟨?_, (by (iterate 1 refine blk_far (p := ⟨gm, _, none⟩) ?_ NBm_r.out.symm _); exact BKr.out), (by (iterate 1 refine IsS58.far (p := ⟨gm, _, none⟩) ?_ (Ne.symm Nm.out) _); exact HI.out), (by (iterate 1 refine Below.setCell (p := ⟨gm, _, none⟩) ?_ GMm.out _); exact HB.out), (by (iterate 1 refine keep_far (p := ⟨gm, _, none⟩) ?_ GEm.out _); exact KP.out)⟩ ?_
  · refine Eq.trans (blk_set BKm.out 5 _) ?_
    simp only [List.setIfInBounds_toArray, List.set_cons_zero, List.set_cons_succ]
  clear BKm BKr HI HB KP
  rintro w1 ⟨BKm, BKr, HI, HB, KP⟩
  replace BKm := a_ BKm
  replace BKr := a_ BKr
  replace HI := a_ HI
  replace HB := a_ HB
  replace KP := a_ KP
  go_upto_region 30 with (go_at_call 31; (with_reducible refine (gafferref09_Bag_Number.calls k g s3 b3 x4 s4 b4 w0 _ HI.out HB.out A4.out).mono ?_); rintro e w4 ⟨rfl, hi, hb, hk⟩; replace HI := a_ hi; replace HB := a_ hb; replace BKm := a_ (keep_blk58 hk Nm.out BKm.out); replace BKr := a_ (keep_blk58 hk Nr.out BKr.out); replace KP := a_ (KP.out.trans hk (.inl rfl)); clear hi hb hk; have hm_2 := (blk_cell BKm.out 2).trans rfl; have hf_2 := blk_frozen BKm.out 2)
  refine gen_world (fun w1 => w1.heap[gm]? = some (.cells #[.int .u8 4, .int .u64 t, .int .u64 x4, .int .u64 0, .int .u64 0, .bool x3, .slice none 0 0, .int .u64 0, .int .u64 0, .slice none 0 0, .string (⟨#[]⟩ : ByteArray)] 37 (0, 0)) ∧ w1.heap[gr]? = some (.cells #[.int .u8 0, .int .u64 0, .int .u64 0, .int .u64 0, .int .u64 0, .bool false, .slice none 0 0, .int .u64 0, .int .u64 0, .slice none 0 0, .string (⟨#[]⟩ : ByteArray)] 37 (0, 0)) ∧ IsS58 w0 w1 g _ _ ∧ Below w0.heap.size w0 w1 ∧ KeepBut w w1 g none) ⟨?_, (by (iterate 1 refine blk_far (p := ⟨gm, _, none⟩) ?_ NBm_r.out.symm _); exact BKr.out), (by (iterate 1 refine IsS58.far (p := ⟨gm, _, none⟩) ?_ (Ne.symm Nm.out) _); exact HI.out), (by (iterate 1 refine Below.setCell (p := ⟨gm, _, none⟩) ?_ GMm.out _); exact HB.out), (by (iterate 1 refine keep_far (p := ⟨gm, _, none⟩) ?_ GEm.out _); exact KP.out)⟩ ?_
  · refine Eq.trans (blk_set BKm.out 2 _) ?_
    simp only [List.setIfInBounds_toArray, List.set_cons_zero, List.set_cons_succ]
  clear BKm BKr HI HB KP
  rintro w1 ⟨BKm, BKr, HI, HB, KP⟩
  replace BKm := a_ BKm
  replace BKr := a_ BKr
  replace HI := a_ HI
  replace HB := a_ HB
  replace KP := a_ KP
  have HO6 := a_ (Kd.S_nil k67 67 w1 w.heap.size (fun i => some i ≠ (Value.slice none 0 0).ownBlock))
  have HO9 := a_ (Kd.R_nil (Kd.int .i64) 3 w1 w.heap.size (fun _ => True))
 rotate_left 1
 rw [if_neg c4] at H
 by_cases c5 : q = 5
 focus
  subst c5
  rw [if_pos rfl] at H
  replace H := Option.bind_eq_some_iff.mp H
  obtain ⟨⟨x3, s3, b3⟩, h3, H⟩ := H
  dsimp only at H
  replace H := Option.bind_eq_some_iff.mp H
  obtain ⟨⟨q0, q1, q2, q3, why⟩, h4, H⟩ := H
  dsimp only at H
  simp only [Option.some.injEq, Prod.mk.injEq] at H
  obtain ⟨rfl, rfl, rfl, rfl, rfl, rfl, rfl, rfl, rfl, rfl, rfl, rfl, rfl⟩ := H
  have A3 := a_ h3
  have A4 := a_ h4
  clear h3 h4
  go_upto_if 93 with (first | (go_at_call 63; (with_reducible refine (gafferref09_Bag_Text.calls k g s b x3 s3 b3 w0 _ HI.out HB.out A3.out).mono ?_); rintro e w4 ⟨rfl, hi, hb, hk⟩; replace HI := a_ hi; replace HB := a_ hb; replace BKm := a_ (keep_blk58 hk Nm.out BKm.out); replace BKr := a_ (keep_blk58 hk Nr.out BKr.out); replace KP := a_ (KP.out.trans hk (.inl rfl)); clear hi hb hk) | (go_at_call 64; (with_reducible refine (gafferref05_Decode.calls k x3 q0 q1 q2 q3 why _ A4.out).mono ?_); rintro e w5 ⟨v, rfl, ho, hb⟩; have HO := a_ ho; replace BKm := bB_ BKm hb; replace BKr := bB_ BKr hb; replace HI := a_ (IsS58.below HI.out hb); replace HB := a_ (HB.out.trans (below_up hb HB.out.size)); have HS := a_ KP.out.1; replace KP := a_ (KP.out.trans (KeepBut.of_below hb g none) (.inl rfl)); clear ho hb; obtain ⟨Ao, co, hvo⟩ := Kd.R_slice HO.out; subst hvo))
  refine gen_world (fun w1 => w1.heap[w5.heap.size]? = some (.cells #[.int .u64 q0, .int .u64 q1, .slice Ao q2.length co, .string q3] 35 (0, 0)) ∧ w1.heap[gm]? = some (.cells #[.int .u8 5, .int .u64 t, .int .u64 0, .int .u64 0, .int .u64 0, .bool false, .slice none 0 0, .int .u64 0, .int .u64 0, .slice none 0 0, .string (⟨#[]⟩ : ByteArray)] 37 (0, 0)) ∧ w1.heap[gr]? = some (.cells #[.int .u8 0, .int .u64 0, .int .u64 0, .int .u64 0, .int .u64 0, .bool false, .slice none 0 0, .int .u64 0, .int .u64 0, .slice none 0 0, .string (⟨#[]⟩ : ByteArray)] 37 (0, 0)) ∧ IsS58 w0 w1 g s3 b3 ∧ Below w0.heap.size w0 w1 ∧ KeepBut w w1 g none ∧ Kd.R (Kd.int .i64) 3 w1 w.heap.size (fun _ => True) (.slice Ao q2.length co) q2) ⟨alloc_new58 _ _, blk_alloc BKm.out _, blk_alloc BKr.out _, HI.out.alloc _, HB.out.alloc HB.out.size _, keep_alloc KP.out _, Kd.R_alloc (Kd.R_lower HO.out HS.out) _⟩ ?_
  clear BKm BKr HI HB KP HO
  rintro w7 ⟨BKs, BKm, BKr, HI, HB, KP, HO⟩
  generalize w5.heap.size = gs at *
  go_cut [] (fun wc => Aside0 (wc.heap[gs]? = some (.cells #[.int .u64 q0, .int .u64 q1, .slice Ao q2.length co, .string q3] 35 (0, 0))) ∧ Aside0 (wc.heap[gm]? = some (.cells #[.int .u8 5, .int .u64 t, .int .u64 0, .int .u64 0, .int .u64 0, .bool false, .slice none 0 0, .int .u64 0, .int .u64 0, .slice none 0 0, .string (⟨#[]⟩ : ByteArray)] 37 (0, 0))) ∧ Aside0 (wc.heap[gr]? = some (.cells #[.int .u8 0, .int .u64 0, .int .u64 0, .int .u64 0, .int .u64 0, .bool false, .slice none 0 0, .int .u64 0, .int .u64 0, .slice none 0 0, .string (⟨#[]⟩ : ByteArray)] 37 (0, 0))) ∧ Aside0 (IsS58 w0 wc g s3 (b3 || (why != 0))) ∧ Aside0 (Below w0.heap.size w0 wc) ∧ Aside0 (KeepBut w wc g none) ∧ Aside0 (Kd.R (Kd.int .i64) 3 wc w.heap.size (fun _ => True) (.slice Ao q2.length co) q2))
  case first =>
   have Ngs := IsS58.ne_blk HI BKs (by decide)
   obtain ⟨ha0, ha1, hb0, hb1⟩ := isS58_cell HI
   cases hn : (why != 0)
   · have hn2 : (why == 0) = true := by simpa [bne] using hn
     go_wp2
     go_meet
     rw [hn, Bool.or_false]
     exact ⟨⟨BKs⟩, ⟨BKm⟩, ⟨BKr⟩, ⟨HI⟩, ⟨HB⟩, ⟨KP⟩, ⟨HO⟩⟩
   · have hn2 : (why == 0) = false := by simpa [bne] using hn
     go_wp2
     go_meet
     rw [hn, Bool.or_true]
     exact ⟨⟨blk_far BKs (p := ⟨g, 1, none⟩) Ngs.symm _⟩, ⟨blk_far BKm (p := ⟨g, 1, none⟩) Nm.out _⟩, ⟨blk_far BKr (p := ⟨g, 1, none⟩) Nr.out _⟩, ⟨IsS58.set_1 HI true⟩, ⟨Below.setCell (p := ⟨g, 1, none⟩) HB (IsS58.ge HI) _⟩, ⟨KeepBut.set_ KP 1 _⟩, ⟨Kd.R_mono (Kd.R_far (p := ⟨g, 1, none⟩) (IsS58.apart HI HO (by decide)) (fun _ hk => hk.2) _) (fun _ hk => hk.1)⟩⟩
  case' rest =>
   have Nms := blk_types58 BKs BKm (by decide)
   clear BKs BKm BKr HI HB KP HO
   obtain ⟨BKs, BKm, BKr, HI, HB, KP, HO⟩ := hcut
   obtain ⟨hs0, hs1, hs2, hs3, -⟩ := c4_ BKs
   obtain ⟨ho0, ho1, ho2, ho3, ho4, ho5, ho6, ho7, ho8, ho9, ho10, hf0, hf1, hf2, hf3, hf4, hf5, hf6, hf7, hf8, hf9, hf10⟩ := c11_ BKm
   go_upto_region 30 with fail
   have HO2 := a_ (Kd.R_types HO.out BKm.out (by decide))
   clear HO
   refine gen_world (fun w1 => w1.heap[gm]? = some (.cells #[.int .u8 5, .int .u64 t, .int .u64 0, .int .u64 0, .int .u64 0, .bool false, .slice none 0 0, .int .u64 q0, .int .u64 q1, .slice Ao q2.length co, .string q3] 37 (0, 0)) ∧ w1.heap[gr]? = some (.cells #[.int .u8 0, .int .u64 0, .int .u64 0, .int .u64 0, .int .u64 0, .bool false, .slice none 0 0, .int .u64 0, .int .u64 0, .slice none 0 0, .string (⟨#[]⟩ : ByteArray)] 37 (0, 0)) ∧ IsS58 w0 w1 g _ _ ∧ Below w0.heap.size w0 w1 ∧ KeepBut w w1 g none ∧ Kd.R (Kd.int .i64) 3 w1 w.heap.size (fun k => True ∧ k ≠ gm) (.slice Ao q2.length co) q2) ⟨?_, (by (iterate 4 refine blk_far (p := ⟨gm, _, none⟩) ?_ NBm_r.out.symm _); exact BKr.out), (by (iterate 4 refine IsS58.far (p := ⟨gm, _, none⟩) ?_ (Ne.symm Nm.out) _); exact HI.out), (by (iterate 4 refine Below.setCell (p := ⟨gm, _, none⟩) ?_ GMm.out _); exact HB.out), (by (iterate 4 refine keep_far (p := ⟨gm, _, none⟩) ?_ GEm.out _); exact KP.out), (by (iterate 4 refine Kd.R_far (p := ⟨gm, _, none⟩) ?_ (fun _ hk => hk.2) _); exact HO2.out)⟩ ?_
   · refine Eq.trans (blk_set (blk_set (blk_set (blk_set BKm.out 7 _) 8 _) 9 _) 10 _) ?_
     simp only [List.setIfInBounds_toArray, List.set_cons_zero, List.set_cons_succ]
   clear BKm BKr HI HB KP
   rintro w1 ⟨BKm, BKr, HI, HB, KP, HO⟩
   replace BKm := a_ BKm
   replace BKr := a_ BKr
   replace HI := a_ HI
   replace HB := a_ HB
   replace KP := a_ KP
   have HO9 := a_ (Kd.R_mono (ok' := fun _ => True) HO (fun _ _ => trivial))
   have HO6 := a_ (Kd.S_nil k67 67 w1 w.heap.size (fun i => some i ≠ (Value.slice Ao q2.length co).ownBlock))
 rotate_left 1
 rw [if_neg c5] at H
 focus
  have q1_ : (q == 1) = false := beq_eq_false_iff_ne.mpr c1
  have u1_ : decide (q = 1) = false := decide_eq_false c1
  have q2_ : (q == 2) = false := beq_eq_false_iff_ne.mpr c2
  have u2_ : decide (q = 2) = false := decide_eq_false c2
  have q3_ : (q == 3) = false := beq_eq_false_iff_ne.mpr c3
  have u3_ : decide (q = 3) = false := decide_eq_false c3
  have q4_ : (q == 4) = false := beq_eq_false_iff_ne.mpr c4
  have u4_ : decide (q = 4) = false := decide_eq_false c4
  have q5_ : (q == 5) = false := beq_eq_false_iff_ne.mpr c5
  have u5_ : decide (q = 5) = false := decide_eq_false c5
  simp only [Option.some.injEq, Prod.mk.injEq] at H
  obtain ⟨rfl, rfl, rfl, rfl, rfl, rfl, rfl, rfl, rfl, rfl, rfl, rfl, rfl⟩ := H
  obtain ⟨hs0, hs1, hf0, hf1⟩ := isS58_cell HI.out
  go_upto_region 30 with fail
  refine gen_world (fun w1 => w1.heap[gm]? = some (.cells #[.int .u8 q, .int .u64 t, .int .u64 0, .int .u64 0, .int .u64 0, .bool false, .slice none 0 0, .int .u64 0, .int .u64 0, .slice none 0 0, .string (⟨#[]⟩ : ByteArray)] 37 (0, 0)) ∧ w1.heap[gr]? = some (.cells #[.int .u8 0, .int .u64 0, .int .u64 0, .int .u64 0, .int .u64 0, .bool false, .slice none 0 0, .int .u64 0, .int .u64 0, .slice none 0 0, .string (⟨#[]⟩ : ByteArray)] 37 (0, 0)) ∧ IsS58 w0 w1 g s true ∧ Below w0.heap.size w0 w1 ∧ KeepBut w w1 g none) ⟨blk_far BKm.out (p := ⟨g, 1, none⟩) Nm.out _, blk_far BKr.out (p := ⟨g, 1, none⟩) Nr.out _, IsS58.set_1 HI.out true, Below.setCell (p := ⟨g, 1, none⟩) HB.out (IsS58.ge HI.out) _, KeepBut.set_ KP.out 1 _⟩ ?_
  clear BKm BKr HI HB KP
  rintro w1 ⟨BKm, BKr, HI, HB, KP⟩
  replace BKm := a_ BKm
  replace BKr := a_ BKr
  replace HI := a_ HI
  replace HB := a_ HB
  replace KP := a_ KP
  have HO6 := a_ (Kd.S_nil k67 67 w1 w.heap.size (fun i => some i ≠ (Value.slice none 0 0).ownBlock))
  have HO9 := a_ (Kd.R_nil (Kd.int .i64) 3 w1 w.heap.size (fun _ => True))
 all_goals obtain ⟨hp0, hp1, hp2, hp3, hp4, hp5, hp6, hp7, hp8, hp9, hp10, -⟩ := c11_ BKm
 all_goals obtain ⟨_, _, _, _, _, _, _, _, _, _, _, _, _, _, _, _, _, _, _, _, _, _⟩ := c11_ BKr
 all_goals go_wp2
 all_goals have F := gafferref13_parts.fin HO6.out HO9.out HI.out HB.out KP.out BKr.out Nr.out GMr.out GEr.out
 all_goals refine bodyPost_ret (results_cell_row rfl _ _ gr 37 _ (0, 0) _ rfl (blk_set (blk_set (blk_set (blk_set (blk_set (blk_set (blk_set (blk_set (blk_set (blk_set (blk_set BKr.out 0 _) 1 _) 2 _) 3 _) 4 _) 5 _) 6 _) 7 _) 8 _) 9 _) 10 _) Try.underlying37 rfl (by kernel_rfl)) rfl ?_
 all_goals have EE : ∀ a b W, a = b → Post (.returned (.agg a)) W → Post (.returned (.agg b)) W := fun a b W e h => e ▸ h
 all_goals refine EE _ _ _ ?_ (HP.out _ _ _ (F _ _ _ _ _ _ _ _ _ _ _).1 (F _ _ _ _ _ _ _ _ _ _ _).2.1 (F _ _ _ _ _ _ _ _ _ _ _).2.2.1 (F _ _ _ _ _ _ _ _ _ _ _).2.2.2.1 (F _ _ _ _ _ _ _ _ _ _ _).2.2.2.2)
 all_goals (simp only [List.setIfInBounds_toArray, List.set_cons_zero, List.set_cons_succ]; done)
def gafferref13_Decode.f (k : Nat) (a0 : ByteArray) : Option (Int × Int × Int × Int × Int × Bool × List S67 × Int × Int × List Int × ByteArray × Int) := (gafferref01_TakeFrame.f k a0).bind fun T => (if T.2.2 = 0 then (if T.2.1.toList = ([] : List UInt8) then ((gafferref09_Bag_Number.f k T.1 false).bind fun x => (if x.1 ≥ 6 then (some (0, 0, 0, 0, 0, false, ([] : List S67), 0, 0, ([] : List Int), (⟨#[]⟩ : ByteArray), 4)) else ((gafferref09_Bag_Number.f k x.2.1 x.2.2).bind fun y => (gafferref13_parts.f k y.2.1 y.2.2 (x.1 % 256) y.1).bind fun m => (if m.2.2.2.2.2.2.2.2.2.2.2.2 = true then (some (0, 0, 0, 0, 0, false, ([] : List S67), 0, 0, ([] : List Int), (⟨#[]⟩ : ByteArray), 4)) else (if m.2.2.2.2.2.2.2.2.2.2.2.1.toList = ([] : List UInt8) then ((gafferref13_Check.f k m.1 m.2.1 m.2.2.1 m.2.2.2.1 m.2.2.2.2.1 m.2.2.2.2.2.1 m.2.2.2.2.2.2.1 m.2.2.2.2.2.2.2.1 m.2.2.2.2.2.2.2.2.1 m.2.2.2.2.2.2.2.2.2.1 m.2.2.2.2.2.2.2.2.2.2.1).bind fun c => (if c = 0 then some (m.1, m.2.1, m.2.2.1, m.2.2.2.1, m.2.2.2.2.1, m.2.2.2.2.2.1, m.2.2.2.2.2.2.1, m.2.2.2.2.2.2.2.1, m.2.2.2.2.2.2.2.2.1, m.2.2.2.2.2.2.2.2.2.1, m.2.2.2.2.2.2.2.2.2.2.1, 0) else (some (0, 0, 0, 0, 0, false, ([] : List S67), 0, 0, ([] : List Int), (⟨#[]⟩ : ByteArray), 4)))) else (some (0, 0, 0, 0, 0, false, ([] : List S67), 0, 0, ([] : List Int), (⟨#[]⟩ : ByteArray), 4))))))) else (some (0, 0, 0, 0, 0, false, ([] : List S67), 0, 0, ([] : List Int), (⟨#[]⟩ : ByteArray), 4))) else (some (0, 0, 0, 0, 0, false, ([] : List S67), 0, 0, ([] : List Int), (⟨#[]⟩ : ByteArray), 4)))
theorem gafferref13_Decode.mono : ∀ a0 k, LeO (gafferref13_Decode.f k a0) (gafferref13_Decode.f (k + 1) a0) := by
 intro a0 k
 unfold gafferref13_Decode.f
 repeat' with_reducible first | apply gafferref01_TakeFrame.mono | apply gafferref09_Bag_Number.mono | apply gafferref13_parts.mono | apply gafferref13_Check.mono | apply LeO.refl | apply LeO.none | apply LeO.ite | refine LeO.bind ?_ (fun _ => ?_)
set_option maxHeartbeats 80000000 in
set_option maxRecDepth 100000 in
theorem gafferref13_Decode.walk (k : Nat) (a0 : ByteArray) (r1 r2 r3 r4 r5 : Int) (r6 : Bool) (r7 : List S67) (r8 r9 : Int) (r10 : List Int) (r11 : ByteArray) (r12 : Int) (w : World) (Post : Ending → World → Prop) (h : gafferref13_Decode.f k a0 = some (r1, r2, r3, r4, r5, r6, r7, r8, r9, r10, r11, r12))
  (hP : ∀ v6 v9 w', Kd.S k67 67 w' w.heap.size (fun i => some i ≠ v9.ownBlock) v6 r7 → Kd.R (Kd.int .i64) 3 w' w.heap.size (fun _ => True) v9 r10 → Below w.heap.size w w' → Post (.returned (.tuple #[.agg #[.int .u8 r1, .int .u64 r2, .int .u64 r3, .int .u64 r4, .int .u64 r5, .bool r6, v6, .int .u64 r8, .int .u64 r9, v9, .string r11], .int .i64 r12])) w') :
  Calls Try.prog 16 #[.string a0] w Post := by
 have HB := a_ (Below.refl w.heap.size w)
 have HP := a_ hP
 have EE : ∀ a b n W, a = b → Post (.returned (.tuple #[.agg a, n])) W → Post (.returned (.tuple #[.agg b, n])) W := fun a b n W e h => e ▸ h
 obtain ⟨⟨p, rest, why⟩, h0, H⟩ := Option.bind_eq_some_iff.mp h
 have A0 := a_ h0
 clear h0 h hP
 dsimp only at H
 go_enter Try.func16, Try.ntmps16
 go_upto_region 2 with (first | ((with_reducible refine gd_ 2 ?_); refine bx_ 2 #[.int .u8 0, .int .u64 0, .int .u64 0, .int .u64 0, .int .u64 0, .bool false, .slice none 0 0, .int .u64 0, .int .u64 0, .slice none 0 0, .string (⟨#[]⟩ : ByteArray)] 37 ?_; intro gr hg w_ hbox hb; have BKr := a_ hbox; have GEr := a_ (bs_0 hg HB); replace HB := hB_ (bl_ HB) hb; clear hb hbox hg) | (go_at_call 30; (with_reducible refine (gafferref01_TakeFrame.calls k a0 p rest why _ A0.out).mono ?_); rintro e w4 ⟨rfl, hb⟩; replace BKr := bB_ BKr hb; replace HB := hB_ (bl_1 HB GEr) hb; clear hb))
 by_cases c1 : ¬ why = 0
 focus
  rw [if_neg c1] at H
  have c1b := beq_eq_false_iff_ne.mpr c1
  have c1d : (why != 0) = true := bne_iff_ne.mpr c1
  clear c1
  simp only [Option.some.injEq, Prod.mk.injEq] at H
  obtain ⟨rfl, rfl, rfl, rfl, rfl, rfl, rfl, rfl, rfl, rfl, rfl, rfl⟩ := H
 rotate_left
 focus
  replace c1 := Decidable.not_not.mp c1
  rw [if_pos c1] at H
  have c1b : (why == 0) = true := beq_iff_eq.mpr c1
  have c1d : (why != 0) = false := bne_eq_false_iff_eq.mpr c1
  clear c1
  by_cases c2 : ¬ rest.toList = ([] : List UInt8)
  focus
   rw [if_neg c2] at H
   have c2b : (rest.toList == ([] : List UInt8)) = false := beq_eq_false_iff_ne.mpr c2
   have c2d : (rest.toList != ([] : List UInt8)) = true := bne_iff_ne.mpr c2
   clear c2
   simp only [Option.some.injEq, Prod.mk.injEq] at H
   obtain ⟨rfl, rfl, rfl, rfl, rfl, rfl, rfl, rfl, rfl, rfl, rfl, rfl⟩ := H
  rotate_left
  focus
   replace c2 := Decidable.not_not.mp c2
   rw [if_pos c2] at H
   have c2b : (rest.toList == ([] : List UInt8)) = true := beq_iff_eq.mpr c2
   have c2d : (rest.toList != ([] : List UInt8)) = false := bne_eq_false_iff_eq.mpr c2
   clear c2
   obtain ⟨⟨x1, s1, b1⟩, h1, H⟩ := Option.bind_eq_some_iff.mp H
   have A1 := a_ h1
   clear h1
   dsimp only at H
   go_upto_region 5 with (first | ((with_reducible refine gd_ 25 ?_); refine bx_ 25 #[.string p, .bool false] 58 ?_; intro gs hg w_ hbox hb; have BKs := a_ hbox; have GEs := a_ (show w.heap.size ≤ gs from by rw [hg]; exact HB.out.size); have NRs := nB_ hg BKr; replace BKr := bB_ BKr hb; replace HB := a_ (HB.out.trans (below_up hb HB.out.size)); clear hb hbox hg))
   have HI := a_ (show IsS58 w _ _ p false from ⟨BKs.out, GEs.out⟩)
   clear BKs
   generalize gs = g at *
   go_upto_region 6 with (first | (go_at_call 31; (with_reducible refine (gafferref09_Bag_Number.calls k g p false x1 s1 b1 w _ HI.out HB.out A1.out).mono ?_); rintro e w5 ⟨rfl, hi, hb, hk⟩; replace HI := a_ hi; replace HB := a_ hb; replace BKr := a_ (keep_blk58 hk NRs.out BKr.out); clear hi hb hk))
   by_cases c3 : x1 ≥ 6
   focus
    rw [if_pos c3] at H
    have c3b : decide (6 ≤ x1) = true := decide_eq_true c3
    clear c3
    simp only [Option.some.injEq, Prod.mk.injEq] at H
    obtain ⟨rfl, rfl, rfl, rfl, rfl, rfl, rfl, rfl, rfl, rfl, rfl, rfl⟩ := H
   rotate_left
   focus
    rw [if_neg c3] at H
    have c3b : decide (6 ≤ x1) = false := decide_eq_false c3
    clear c3
    obtain ⟨⟨y1, s3, b3⟩, h2, H⟩ := Option.bind_eq_some_iff.mp H
    have A2 := a_ h2
    clear h2
    dsimp only at H
    obtain ⟨⟨m0, m1, m2, m3, m4, m5, m6, m7, m8, m9, m10, s2, b2⟩, h3, H⟩ := Option.bind_eq_some_iff.mp H
    have A3 := a_ h3
    clear h3
    dsimp only at H
    go_upto_region 9 with (first | (go_at_call 31; (with_reducible refine (gafferref09_Bag_Number.calls k g s1 b1 y1 s3 b3 w _ HI.out HB.out A2.out).mono ?_); rintro e w5 ⟨rfl, hi, hb, hk⟩; replace HI := a_ hi; replace HB := a_ hb; replace BKr := a_ (keep_blk58 hk NRs.out BKr.out); clear hi hb hk) | (go_at_call 32; (refine gafferref13_parts.walk k g s3 b3 (x1 % 256) y1 m0 m1 m2 m3 m4 m5 m6 m7 m8 m9 m10 s2 b2 w _ _ HI.out HB.out A3.out ?_); intro v6 v9 w6 ho6 ho9 hi hb hk; have HO6 := a_ (Kd.S_lower ho6 HB.out.size); have HO9 := a_ (Kd.R_lower ho9 HB.out.size); obtain ⟨A6, c6, hv6⟩ := Kd.S_slice HO6.out; subst hv6; obtain ⟨A9, c9, hv9⟩ := Kd.R_slice HO9.out; subst hv9; replace HI := a_ hi; replace BKr := a_ (keep_blk58 hk NRs.out BKr.out); replace HB := a_ hb; clear hi hb hk ho6 ho9) | ((with_reducible refine gd_ 9 ?_); refine bx_ 9 #[.int .u8 0, .int .u64 0, .int .u64 0, .int .u64 0, .int .u64 0, .bool false, .slice none 0 0, .int .u64 0, .int .u64 0, .slice none 0 0, .string (⟨#[]⟩ : ByteArray)] 37 ?_; intro gm hg w_ hbox hb; have BKm := a_ hbox; have GEm := a_ (show w.heap.size ≤ gm from by rw [hg]; exact HB.out.size); have NRm := nB_ hg BKr; have NMs := a_ (show gm ≠ g from by rw [hg]; exact Nat.ne_of_gt HI.out.lt); replace BKr := bB_ BKr hb; replace HI := a_ (IsS58.below HI.out hb); replace HO6 := a_ (Kd.S_below HO6.out hb); replace HO9 := a_ (Kd.R_below HO9.out hb); replace HB := a_ (HB.out.trans (below_up hb HB.out.size)); have hzm := c11_ BKm; clear hb hbox hg))
    refine gen_world (fun w1 => w1.heap[gm]? = some (.cells #[.int .u8 m0, .int .u64 m1, .int .u64 m2, .int .u64 m3, .int .u64 m4, .bool m5, .slice A6 m6.length c6, .int .u64 m7, .int .u64 m8, .slice A9 m9.length c9, .string m10] 37 (0, 0)) ∧ w1.heap[gr]? = some (.cells #[.int .u8 0, .int .u64 0, .int .u64 0, .int .u64 0, .int .u64 0, .bool false, .slice none 0 0, .int .u64 0, .int .u64 0, .slice none 0 0, .string (⟨#[]⟩ : ByteArray)] 37 (0, 0)) ∧ IsS58 w w1 g s2 b2 ∧ Below w.heap.size w w1 ∧ Kd.S k67 67 w1 w.heap.size (fun i => some i ≠ (Value.slice A9 m9.length c9).ownBlock) (.slice A6 m6.length c6) m6 ∧ Kd.R (Kd.int .i64) 3 w1 w.heap.size (fun _ => True) (.slice A9 m9.length c9) m9) ⟨?_, (by (iterate 11 refine blk_far (p := ⟨gm, _, none⟩) ?_ NRm.out _); exact BKr.out), (by (iterate 11 refine IsS58.far (p := ⟨gm, _, none⟩) ?_ NMs.out.symm _); exact HI.out), (msg_Decode.fin HO6.out HO9.out HB.out BKm.out GEm.out _ _ _ _ _ _ _ _ _ _ _).2.2, (msg_Decode.fin HO6.out HO9.out HB.out BKm.out GEm.out _ _ _ _ _ _ _ _ _ _ _).1, (msg_Decode.fin HO6.out HO9.out HB.out BKm.out GEm.out _ _ _ _ _ _ _ _ _ _ _).2.1⟩ ?_
    · refine Eq.trans (blk_set (blk_set (blk_set (blk_set (blk_set (blk_set (blk_set (blk_set (blk_set (blk_set (blk_set BKm.out 0 _) 1 _) 2 _) 3 _) 4 _) 5 _) 6 _) 7 _) 8 _) 9 _) 10 _) ?_
      simp only [List.setIfInBounds_toArray, List.set_cons_zero, List.set_cons_succ]
    clear BKm BKr HI HB HO6 HO9 hzm
    rintro w1 ⟨BKm, BKr, HI, HB, HO6, HO9⟩
    replace BKm := a_ BKm
    replace BKr := a_ BKr
    replace HI := a_ HI
    replace HB := a_ HB
    replace HO6 := a_ HO6
    replace HO9 := a_ HO9
    obtain ⟨hp0, hp1, hp2, hp3, hp4, hp5, hp6, hp7, hp8, hp9, hp10, -⟩ := c11_ BKm
    obtain ⟨hs0, hs1, hf0, hf1⟩ := isS58_cell HI.out
    by_cases c5 : b2 = true
    focus
     rw [if_pos c5] at H
     subst c5
     simp only [Option.some.injEq, Prod.mk.injEq] at H
     obtain ⟨rfl, rfl, rfl, rfl, rfl, rfl, rfl, rfl, rfl, rfl, rfl, rfl⟩ := H
    rotate_left
    focus
     rw [if_neg c5] at H
     replace c5 := Bool.eq_false_iff.mpr c5
     subst c5
     by_cases c6 : ¬ s2.toList = ([] : List UInt8)
     focus
      rw [if_neg c6] at H
      have c6b : (s2.toList == ([] : List UInt8)) = false := beq_eq_false_iff_ne.mpr c6
      have c6d : (s2.toList != ([] : List UInt8)) = true := bne_iff_ne.mpr c6
      clear c6
      simp only [Option.some.injEq, Prod.mk.injEq] at H
      obtain ⟨rfl, rfl, rfl, rfl, rfl, rfl, rfl, rfl, rfl, rfl, rfl, rfl⟩ := H
     rotate_left
     focus
      replace c6 := Decidable.not_not.mp c6
      rw [if_pos c6] at H
      have c6b : (s2.toList == ([] : List UInt8)) = true := beq_iff_eq.mpr c6
      have c6d : (s2.toList != ([] : List UInt8)) = false := bne_eq_false_iff_eq.mpr c6
      clear c6
      obtain ⟨c, h4, H⟩ := Option.bind_eq_some_iff.mp H
      have AC := a_ h4
      clear h4
      go_upto_if 53 with (first | (go_at_call 20; (with_reducible refine (gafferref13_Check.calls k m0 m1 m2 m3 m4 m5 A6 c6 m6 m7 m8 A9 c9 m9 m10 c _ ?k1 ?k2 ?k3 ?k4 AC.out).mono ?_); (case k1 => exact (Kd.S_reads' HO6.out).2.2); (case k2 => exact (Kd.S_reads' HO6.out).2.1); (case k3 => exact (Kd.R_reads' HO9.out).2.2); (case k4 => exact (Kd.R_reads' HO9.out).2.1); rintro e w8 ⟨rfl, hb⟩; replace HO6 := a_ (Kd.S_below HO6.out hb); replace HO9 := a_ (Kd.R_below HO9.out hb); replace BKr := bB_ BKr hb; replace BKm := bB_ BKm hb; replace HB := a_ (HB.out.trans (below_up hb HB.out.size)); clear hb))
      by_cases c7 : ¬ c = 0
      focus
       rw [if_neg c7] at H
       have c7b : (c == 0) = false := beq_eq_false_iff_ne.mpr c7
       have c7d : (c != 0) = true := bne_iff_ne.mpr c7
       clear c7
       simp only [Option.some.injEq, Prod.mk.injEq] at H
       obtain ⟨rfl, rfl, rfl, rfl, rfl, rfl, rfl, rfl, rfl, rfl, rfl, rfl⟩ := H
      rotate_left
      focus
       focus
        replace c7 := Decidable.not_not.mp c7
        rw [if_pos c7] at H
        subst c7
        have c7b : ((0 : Int) == 0) = true := rfl
        clear hp0 hp1 hp2 hp3 hp4 hp5 hp6 hp7 hp8 hp9 hp10 hs0 hs1 hf0 hf1
        obtain ⟨hp0, hp1, hp2, hp3, hp4, hp5, hp6, hp7, hp8, hp9, hp10, -⟩ := c11_ BKm
        simp only [Option.some.injEq, Prod.mk.injEq] at H
        obtain ⟨rfl, rfl, rfl, rfl, rfl, rfl, rfl, rfl, rfl, rfl, rfl, rfl⟩ := H
        obtain ⟨_, _, _, _, _, _, _, _, _, _, _, _, _, _, _, _, _, _, _, _, _, _⟩ := c11_ BKr
        go_wp2
        have F := msg_Decode.fin HO6.out HO9.out HB.out BKr.out GEr.out
        refine bodyPost_ret (results_ct rfl _ _ gr 37 _ (0, 0) _ rfl (blk_set (blk_set (blk_set (blk_set (blk_set (blk_set (blk_set (blk_set (blk_set (blk_set (blk_set BKr.out 0 _) 1 _) 2 _) 3 _) 4 _) 5 _) 6 _) 7 _) 8 _) 9 _) 10 _) Try.underlying37 rfl (by kernel_rfl)) rfl ?_
        refine EE _ _ _ _ ?_ (HP.out _ _ _ (F _ _ _ _ _ _ _ _ _ _ _).1 (F _ _ _ _ _ _ _ _ _ _ _).2.1 (F _ _ _ _ _ _ _ _ _ _ _).2.2)
        (simp only [List.setIfInBounds_toArray, List.set_cons_zero, List.set_cons_succ]; done)
 all_goals obtain ⟨_, _, _, _, _, _, _, _, _, _, _, _, _, _, _, _, _, _, _, _, _, _⟩ := c11_ BKr
 all_goals go_wp2
 all_goals have F := msg_Decode.fin (Kd.S_nil k67 67 _ w.heap.size (fun i => some i ≠ (Value.slice none 0 0).ownBlock)) (Kd.R_nil (Kd.int .i64) 3 _ w.heap.size (fun _ => True)) HB.out BKr.out GEr.out
 all_goals refine bodyPost_ret (results_ct rfl _ _ gr 37 _ (0, 0) _ rfl (blk_set (blk_set (blk_set (blk_set (blk_set (blk_set (blk_set (blk_set (blk_set (blk_set (blk_set BKr.out 0 _) 1 _) 2 _) 3 _) 4 _) 5 _) 6 _) 7 _) 8 _) 9 _) 10 _) Try.underlying37 rfl (by kernel_rfl)) rfl ?_
 all_goals refine EE _ _ _ _ ?_ (HP.out _ _ _ (F _ _ _ _ _ _ _ _ _ _ _).1 (F _ _ _ _ _ _ _ _ _ _ _).2.1 (F _ _ _ _ _ _ _ _ _ _ _).2.2)
 all_goals (simp only [List.setIfInBounds_toArray, List.set_cons_zero, List.set_cons_succ]; done)
theorem gafferref13_Decode.calls (k : Nat) (a0 : ByteArray) (r1 : Int) (r2 : Int) (r3 : Int) (r4 : Int) (r5 : Int) (r6 : Bool) (r7 : List (S67)) (r8 : Int) (r9 : Int) (r10 : List Int) (r11 : ByteArray) (r12 : Int) (w : World) (h : gafferref13_Decode.f k a0 = some (r1, r2, r3, r4, r5, r6, r7, r8, r9, r10, r11, r12)) :
  Calls Try.prog 16 #[.string a0] w fun e w' => ∃ v6_ v9_ : Value, e = .returned (.tuple #[.agg #[.int .u8 r1, .int .u64 r2, .int .u64 r3, .int .u64 r4, .int .u64 r5, .bool r6, v6_, .int .u64 r8, .int .u64 r9, v9_, .string r11], .int .i64 r12]) ∧ Kd.S k67 67 w' w.heap.size (fun k_ => some k_ ≠ (v9_ : Value).ownBlock) v6_ r7 ∧ Kd.R (Kd.int .i64) 3 w' w.heap.size (fun _ => True) v9_ r10 ∧ Below w.heap.size w w' := by
 refine gafferref13_Decode.walk k a0 r1 r2 r3 r4 r5 r6 r7 r8 r9 r10 r11 r12 w _ h (fun v6 v9 w' h6 h9 hb => ?_)
 exact ⟨_, _, rfl, (by first | exact h6 | exact Kd.S_R h6 | exact Kd.R_mono (Kd.S_R h6) (fun _ _ => trivial)), (by exact h9), hb⟩

def gafferref03_SameEntry.f (k : Nat) (a0_0 : Int) (a0_1 : Int) (a0_2 : Int) (a0_3 : ByteArray) (l0_4 : List Int) (a1_0 : Int) (a1_1 : Int) (a1_2 : Int) (a1_3 : ByteArray) (l1_4 : List Int) : Option (Bool) := if a0_0 = a1_0 then (if a0_1 = a1_1 then (if a0_2 = a1_2 then (if a0_3.toList = a1_3.toList then ((gafferref03_SameInts.f k l0_4 l1_4).bind fun t390 => (some t390)) else (some false)) else (some false)) else (some false)) else (some false)
theorem gafferref03_SameEntry.mono : ∀ a0 a1 a2 a3 a4 a5 a6 a7 a8 a9 k, LeO (gafferref03_SameEntry.f k a0 a1 a2 a3 a4 a5 a6 a7 a8 a9) (gafferref03_SameEntry.f (k + 1) a0 a1 a2 a3 a4 a5 a6 a7 a8 a9) := by
 intro a0 a1 a2 a3 a4 a5 a6 a7 a8 a9 k
 unfold gafferref03_SameEntry.f
 repeat' with_reducible first | apply gafferref03_SameInts.mono | apply LeO.refl | apply LeO.none | apply LeO.ite | refine LeO.bind ?_ (fun _ => ?_)
theorem gafferref03_SameEntry.calls (k : Nat) (a0_0 : Int) (a0_1 : Int) (a0_2 : Int) (a0_3 : ByteArray) (A0_4 : Option Addr) (c0_4 : Nat) (l0_4 : List Int) (a1_0 : Int) (a1_1 : Int) (a1_2 : Int) (a1_3 : ByteArray) (A1_4 : Option Addr) (c1_4 : Nat) (l1_4 : List Int) (r : Bool) (w : World) (hr0_4 : Kd.C (Kd.int .i64) w A0_4 l0_4.length l0_4) (hc0_4 : l0_4.length ≤ c0_4) (hr1_4 : Kd.C (Kd.int .i64) w A1_4 l1_4.length l1_4) (hc1_4 : l1_4.length ≤ c1_4) (h : gafferref03_SameEntry.f k a0_0 a0_1 a0_2 a0_3 l0_4 a1_0 a1_1 a1_2 a1_3 l1_4 = some r) :
  Calls Try.prog 65 #[.agg #[.int .u64 a0_0, .int .u64 a0_1, .int .u8 a0_2, .string a0_3, .slice A0_4 l0_4.length c0_4], .agg #[.int .u64 a1_0, .int .u64 a1_1, .int .u8 a1_2, .string a1_3, .slice A1_4 l1_4.length c1_4]] w fun e w' => e = .returned (.bool r) ∧ Below w.heap.size w w' := by
 have hu_1 := Try.underlying67
 have HR_1 := a_ hr0_4
 have HC_1 := a_ hc0_4
 clear hr0_4 hc0_4
 have HR_2 := a_ hr1_4
 have HC_2 := a_ hc1_4
 clear hr1_4 hc1_4
 have HB := a_ (Below.refl w.heap.size w)
 have H := h
 unfold gafferref03_SameEntry.f at H
 clear h
 by_cases c_1 : a0_0 = a1_0
 rotate_left
 focus
  rw [if_neg c_1] at H
  have c_2 : (a0_0 == a1_0) = false := beq_eq_false_iff_ne.mpr c_1
  have c_3 : (a0_0 != a1_0) = true := bne_iff_ne.mpr c_1
  obtain rfl := Option.some.inj H
 rotate_left
 focus
  rw [if_pos c_1] at H
  have c_2 : (a0_0 == a1_0) = true := beq_iff_eq.mpr c_1
  have c_3 : (a0_0 != a1_0) = false := bne_eq_false_iff_eq.mpr c_1
  clear c_1
  by_cases c_4 : a0_1 = a1_1
  rotate_left
  focus
   rw [if_neg c_4] at H
   have c_5 : (a0_1 == a1_1) = false := beq_eq_false_iff_ne.mpr c_4
   have c_6 : (a0_1 != a1_1) = true := bne_iff_ne.mpr c_4
   obtain rfl := Option.some.inj H
  rotate_left
  focus
   rw [if_pos c_4] at H
   have c_5 : (a0_1 == a1_1) = true := beq_iff_eq.mpr c_4
   have c_6 : (a0_1 != a1_1) = false := bne_eq_false_iff_eq.mpr c_4
   clear c_4
   by_cases c_7 : a0_2 = a1_2
   rotate_left
   focus
    rw [if_neg c_7] at H
    have c_8 : (a0_2 == a1_2) = false := beq_eq_false_iff_ne.mpr c_7
    have c_9 : (a0_2 != a1_2) = true := bne_iff_ne.mpr c_7
    obtain rfl := Option.some.inj H
   rotate_left
   focus
    rw [if_pos c_7] at H
    have c_8 : (a0_2 == a1_2) = true := beq_iff_eq.mpr c_7
    have c_9 : (a0_2 != a1_2) = false := bne_eq_false_iff_eq.mpr c_7
    clear c_7
    by_cases c_10 : a0_3.toList = a1_3.toList
    rotate_left
    focus
     rw [if_neg c_10] at H
     have c_11 : (a0_3.toList == a1_3.toList) = false := beq_eq_false_iff_ne.mpr c_10
     have c_12 : (a0_3.toList != a1_3.toList) = true := bne_iff_ne.mpr c_10
     obtain rfl := Option.some.inj H
    rotate_left
    rw [if_pos c_10] at H
    have c_11 : (a0_3.toList == a1_3.toList) = true := beq_iff_eq.mpr c_10
    have c_12 : (a0_3.toList != a1_3.toList) = false := bne_eq_false_iff_eq.mpr c_10
    clear c_10
    obtain ⟨t_1, A_1, H⟩ := Option.bind_eq_some_iff.mp H
    try dsimp only at H
    have A_2 := a_ A_1
    clear A_1
    obtain rfl := Option.some.inj H
 all_goals
  go_enter Try.func65, Try.ntmps65
  go_wp2_with (first | ((with_reducible refine gd_ 2 ?_); refine bx_ 2 #[.int .u64 a0_0, .int .u64 a0_1, .int .u8 a0_2, .string a0_3, .slice A0_4 l0_4.length c0_4] 67 ?_; intro gb_1 hg w_1 hbox hb; have BK_1 := a_ (hbox); have GE_1 := a_ (bs_0 hg HB); replace HB := hB_ (bl_ HB) hb; clear hb hbox hg) | ((with_reducible refine gd_ 3 ?_); refine bx_ 3 #[.int .u64 a1_0, .int .u64 a1_1, .int .u8 a1_2, .string a1_3, .slice A1_4 l1_4.length c1_4] 67 ?_; intro gb_2 hg w_2 hbox hb; have BK_2 := a_ (hbox); have GE_2 := a_ (bs_1 hg HB GE_1); replace HB := hB_ (bl_1 HB GE_1) hb; have NB_1 := nB_ hg BK_1; have NB_2 := nC_ hg BK_1; replace BK_1 := bB_ BK_1 hb; clear hb hbox hg; have hnb_1 := NB_1.out; have hnc_1 := NB_2.out; obtain ⟨_, _, _, _, _, _, _, _, _, _⟩ := c5_ BK_1; obtain ⟨_, _, _, _, _, _, _, _, _, _⟩ := c5_ BK_2) | (go_at_call 66; (with_reducible refine (gafferref03_SameInts.calls k _ _ l0_4 _ _ l1_4 t_1 _ ?side1 ?side2 ?side3 ?side4 A_2.out).mono ?_); (case side1 => exact cl_ (Kd.C_below HR_1.out HB.out)); (case side2 => exact HC_1.out); (case side3 => exact cl_ (Kd.C_below HR_2.out HB.out)); (case side4 => exact HC_2.out); rintro e w' ⟨rfl, ⟨nd, rfl⟩⟩))
  go_ret
  exact ⟨fz_, bl_2 HB GE_1 GE_2⟩

end Go.Proofs.Ytcdibodjkdoknaa.PM
