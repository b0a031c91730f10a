-- By a program of this session.
import Derived.Test.YtpigjmjbfpipnaaPFx0
import Derived.Test.YtpigjmjbfpipnaaPFx3
import Derived.Test.YtpigjmjbfpipnaaPFx15
namespace Go.Proofs.Ytpigjmjbfpipnaa.PF
open Go.RowKit YtpigjmjbfpipnaaW.PrintWords YtpigjmjbfpipnaaW.PrintLast YtpigjmjbfpipnaaW.PrintMore Sh Ytpigjmjbfpipnaa.Op
attribute [local go_sem] max2_int min2_int max_two min_two max_three min_three max_four min_four
set_option linter.unusedVariables false
set_option maxHeartbeats 80000000
set_option maxRecDepth 100000
set_option linter.unusedSimpArgs false
def gafferref02_ready.f (k : Nat) (l0_0 : List (S71)) (a0_1 : Bool) (a0_2 : Int) : Option (Int) := (gafferref02_Check.f k l0_0 a0_1 a0_2).bind fun t473 => (if t473 = 0 then (if a0_1 = true then (some 8) else (some 0)) else (some 10))
theorem gafferref02_ready.mono : ∀ a0 a1 a2 k, LeO (gafferref02_ready.f k a0 a1 a2) (gafferref02_ready.f (k + 1) a0 a1 a2) := by
 intro a0 a1 a2 k
 unfold gafferref02_ready.f
 repeat' with_reducible first | apply gafferref02_Check.mono | apply LeO.refl | apply LeO.none | apply LeO.ite | refine LeO.bind ?_ (fun _ => ?_)
theorem gafferref02_ready.calls (k : Nat) (A0_0 : Option Addr) (c0_0 : Nat) (l0_0 : List (S71)) (a0_1 : Bool) (a0_2 : Int) (r : Int) (w : World) (hr0_0 : Kd.C k71 w A0_0 l0_0.length l0_0) (hc0_0 : l0_0.length ≤ c0_0) (h : gafferref02_ready.f k l0_0 a0_1 a0_2 = some r) :
  Calls Try.prog 97 #[.agg #[.slice A0_0 l0_0.length c0_0, .bool a0_1, .int .i64 a0_2]] w fun e w' => e = .returned (.int .i64 r) ∧ Below w.heap.size w w' := by
 have hu24 := Try.underlying24
 have HR0_0 := a_ hr0_0
 have HC0_0 := a_ hc0_0
 clear hr0_0 hc0_0
 have HB := a_ (Below.refl w.heap.size w)
 have H := h
 unfold gafferref02_ready.f at H
 clear h
 obtain ⟨t473, A2, H⟩ := ob_ H
 try dsimp only at H
 by_cases c3 : t473 = 0
 rotate_left
 ·rw [if_neg c3] at H
  obtain ⟨c3b0, c3b1⟩ := bn_ c3
  obtain rfl := Option.some.inj H
  go_enter Try.func97, Try.ntmps97
  go_wp2_with (first | ((with_reducible refine gd_ 1 ?_); refine bz_ 1 #[.slice A0_0 l0_0.length c0_0, .bool a0_1, .int .i64 a0_2] 24 ?_; intro gb472 hg w13 BK472 hb; have GE472 := a_ (bs_0 hg HB); replace HB := hB_ (bl_ HB) hb; clear hb hg; obtain ⟨hcz14_0, hcz14_1, hcz14_2, hfz14_0, hfz14_1, hfz14_2⟩ := c3_ BK472) | ((with_reducible refine gk_ 46 ?_); refine gl_ (some 5) Try.func46 #[.agg #[.slice A0_0 l0_0.length c0_0, .bool a0_1, .int .i64 a0_2]] ?_; (with_reducible refine (gafferref02_Check.calls _ _ _ _ _ _ _ _ ?side1 ?side2 A2.out).mono ?_); (case side1 => exact cl_ (Kd.C_below HR0_0.out HB.out)); (case side2 => exact HC0_0.out); rintro e w15 ⟨rfl, hb⟩; refine ⟨_, rfl, ?_⟩; replace BK472 := bB_ BK472 hb; replace HB := hB_ (bl_1 HB GE472) hb; (try clear hb)))
  go_ret
  exact ⟨fz_, bl_1 HB GE472⟩


 rw [if_pos c3] at H
 obtain ⟨c3b0, c3b1⟩ := be_ c3
 clear c3
 by_cases c4 : a0_1 = true
 ·subst c4
  have H1 : (some 8) = some r := by rw [if_pos rfl] at H; exact H
  clear H
  have H := H1
  clear H1
  obtain rfl := Option.some.inj H
  go_enter Try.func97, Try.ntmps97
  go_wp2_with (first | ((with_reducible refine gd_ 1 ?_); refine bz_ 1 #[.slice A0_0 l0_0.length c0_0, .bool true, .int .i64 a0_2] 24 ?_; intro gb472 hg w5 BK472 hb; have GE472 := a_ (bs_0 hg HB); replace HB := hB_ (bl_ HB) hb; clear hb hg; obtain ⟨hcz6_0, hcz6_1, hcz6_2, hfz6_0, hfz6_1, hfz6_2⟩ := c3_ BK472) | ((with_reducible refine gk_ 46 ?_); refine gl_ (some 5) Try.func46 #[.agg #[.slice A0_0 l0_0.length c0_0, .bool true, .int .i64 a0_2]] ?_; (with_reducible refine (gafferref02_Check.calls _ _ _ _ _ _ _ _ ?side1 ?side2 A2.out).mono ?_); (case side1 => exact cl_ (Kd.C_below HR0_0.out HB.out)); (case side2 => exact HC0_0.out); rintro e w7 ⟨rfl, hb⟩; refine ⟨_, rfl, ?_⟩; replace BK472 := bB_ BK472 hb; replace HB := hB_ (bl_1 HB GE472) hb; (try clear hb); obtain ⟨hcz8_0, hcz8_1, hcz8_2, hfz8_0, hfz8_1, hfz8_2⟩ := c3_ BK472))
  go_ret
  exact ⟨fz_, bl_1 HB GE472⟩
 replace c4 := Bool.eq_false_iff.mpr c4
 subst c4
 have H1 : (some 0) = some r := by rw [if_neg (show ¬ (false = true) by decide)] at H; exact H
 clear H
 have H := H1
 clear H1
 obtain rfl := Option.some.inj H
 go_enter Try.func97, Try.ntmps97
 go_wp2_with (first | ((with_reducible refine gd_ 1 ?_); refine bz_ 1 #[.slice A0_0 l0_0.length c0_0, .bool false, .int .i64 a0_2] 24 ?_; intro gb472 hg w9 BK472 hb; have GE472 := a_ (bs_0 hg HB); replace HB := hB_ (bl_ HB) hb; clear hb hg; obtain ⟨hcz10_0, hcz10_1, hcz10_2, hfz10_0, hfz10_1, hfz10_2⟩ := c3_ BK472) | ((with_reducible refine gk_ 46 ?_); refine gl_ (some 5) Try.func46 #[.agg #[.slice A0_0 l0_0.length c0_0, .bool false, .int .i64 a0_2]] ?_; (with_reducible refine (gafferref02_Check.calls _ _ _ _ _ _ _ _ ?side1 ?side2 A2.out).mono ?_); (case side1 => exact cl_ (Kd.C_below HR0_0.out HB.out)); (case side2 => exact HC0_0.out); rintro e w11 ⟨rfl, hb⟩; refine ⟨_, rfl, ?_⟩; replace BK472 := bB_ BK472 hb; replace HB := hB_ (bl_1 HB GE472) hb; (try clear hb); obtain ⟨hcz12_0, hcz12_1, hcz12_2, hfz12_0, hfz12_1, hfz12_2⟩ := c3_ BK472))
 go_ret
 exact ⟨fz_, bl_1 HB GE472⟩
def gafferref02_bad.f (l0_0 : List (S71)) (a0_1 : Bool) (a0_2 : Int) (a1 : Int) : Option ((List (S71)) × Bool × Int × Int) := if a1 = 10 then (some (([] : List (S71)), false, 0, a1)) else ((gafferref02_Copy.f l0_0 a0_1 a0_2).bind fun bt476 => (some (bt476.1, bt476.2.1, bt476.2.2, a1)))
theorem gafferref02_bad.calls (A0_0 : Option Addr) (c0_0 : Nat) (l0_0 : List (S71)) (a0_1 : Bool) (a0_2 : Int) (a1 : Int) (r1 : List (S71)) (r2 : Bool) (r3 : Int) (r4 : Int) (w : World) (hr0_0 : Kd.C k71 w A0_0 l0_0.length l0_0) (hc0_0 : l0_0.length ≤ c0_0) (h : gafferref02_bad.f l0_0 a0_1 a0_2 a1 = some (r1, r2, r3, r4)) :
  Calls Try.prog 98 #[.agg #[.slice A0_0 l0_0.length c0_0, .bool a0_1, .int .i64 a0_2], .int .i64 a1] w fun e w' => ∃ v0_ : Value, e = .returned (.tuple #[.agg #[v0_, .bool r2, .int .i64 r3], .int .i64 r4]) ∧ Kd.R k71 71 w' w.heap.size (fun _ => True) v0_ r1 ∧ Below w.heap.size w w' := by
 have hu_1 := Try.underlying24
 have HR_1 := a_ hr0_0
 have HC_1 := a_ hc0_0
 clear hr0_0 hc0_0
 have HB := a_ (Below.refl w.heap.size w)
 have H := h
 unfold gafferref02_bad.f at H
 clear h
 by_cases c_1 : a1 = 10
 focus
  rw [if_pos c_1] at H
  obtain ⟨c_2, c_3⟩ := be_ c_1
  clear c_1
  obtain ⟨rfl, rfl, rfl, rfl⟩ := so4_ H
  have L0_ := trivial
 rotate_left
 rw [if_neg c_1] at H
 obtain ⟨c_2, c_3⟩ := bn_ c_1
 obtain ⟨⟨t_1, t_2, t_3⟩, A_2, H⟩ := ob_ H
 try dsimp only at H
 obtain ⟨rfl, rfl, rfl, rfl⟩ := so4_ H
 have L1_ := trivial
 all_goals
  go_enter Try.func98, Try.ntmps98
  first
  | (have _ := L0_
     go_wp2_with (first | ((with_reducible refine gd_ 2 ?_); refine bz_ 2 #[.slice A0_0 l0_0.length c0_0, .bool a0_1, .int .i64 a0_2] 24 ?_; intro gb_1 hg w_1 BK_1 hb; have GE_1 := a_ (bs_0 hg HB); replace HB := hB_ (bl_ HB) hb; clear hb hg) | ((with_reducible refine gd_ 4 ?_); refine bz_ 4 #[.slice none 0 0, .bool false, .int .i64 0] 24 ?_; intro gb_2 hg w_2 BK_2 hb; have GE_2 := a_ (bs_1 hg HB GE_1); replace HB := hB_ (bl_1 HB GE_1) hb; have NB_1 := nB_ hg BK_1; have NB_2 := nC_ hg BK_1; replace BK_1 := bB_ BK_1 hb; clear hb hg; have := NB_2.out; have := NB_1.out; obtain ⟨_, _, _, _, _, _⟩ := c3_ BK_2))
     refine bodyPost_ret (results_ct rfl _ _ gb_2 24 #[.slice none 0 0, .bool false, .int .i64 0] (0, 0) _ rfl (bp_0 BK_2) Try.underlying24 rfl (by kernel_rfl)) rfl ?_
     exact ⟨_, fz_, nl_, bl_2 HB GE_1 GE_2⟩)
  | (have _ := L1_
     go_wp2_with (first | ((with_reducible refine gd_ 2 ?_); refine bz_ 2 #[.slice A0_0 l0_0.length c0_0, .bool a0_1, .int .i64 a0_2] 24 ?_; intro gb_1 hg w_1 BK_1 hb; have GE_1 := a_ (bs_0 hg HB); replace HB := hB_ (bl_ HB) hb; clear hb hg) | ((with_reducible refine gd_ 4 ?_); refine bz_ 4 #[.slice none 0 0, .bool false, .int .i64 0] 24 ?_; intro gb_2 hg w_2 BK_2 hb; have GE_2 := a_ (bs_1 hg HB GE_1); replace HB := hB_ (bl_1 HB GE_1) hb; have NB_1 := nB_ hg BK_1; have NB_2 := nC_ hg BK_1; replace BK_1 := bB_ BK_1 hb; clear hb hg; have := NB_1.out; have := NB_2.out; obtain ⟨_, _, _, _, _, _⟩ := c3_ BK_1) | ((with_reducible refine gk_ 14 ?_); refine gl_ (some 11) Try.func14 #[.agg #[.slice A0_0 l0_0.length c0_0, .bool a0_1, .int .i64 a0_2]] ?_; (with_reducible refine (gafferref02_Copy.calls _ _ _ _ _ _ _ _ _ ?side1 ?side2 A_2.out).mono ?_); (case side1 => exact cl_ (Kd.C_below HR_1.out HB.out)); (case side2 => exact HC_1.out); rintro e w_3 ⟨v_1, rfl, ho_1, hb⟩; refine ⟨_, rfl, ?_⟩; have HO_1 := a_ (Kd.R_lower ho_1 (below_size (bl_2 HB GE_1 GE_2))); replace BK_1 := bB_ BK_1 hb; replace BK_2 := bB_ BK_2 hb; replace HB := hB_ (bl_2 HB GE_1 GE_2) hb; (try clear hb); (try clear ho_1); obtain ⟨Ao_1, co_1, eo_1⟩ := Kd.R_slice HO_1.out; subst eo_1; obtain ⟨_, _, _, _, _, _⟩ := c3_ BK_2))
     refine bodyPost_ret (results_ct rfl _ _ gb_2 24 #[.slice Ao_1 t_1.length co_1, .bool t_2, .int .i64 t_3] (0, 0) _ rfl (bp_0 BK_2) Try.underlying24 rfl (by kernel_rfl)) rfl ?_
     exact ⟨_, fz_, by refine rq_ ?_; exact rf1_ HO_1 BK_2, bl_2 HB GE_1 GE_2⟩)

def gafferref02_burnt.f (l0_0 : List (S71)) (a0_1 : Bool) (a0_2 : Int) : Option ((List (S71)) × Bool × Int × Bool) := if a0_2 = 0 then (some (l0_0, true, a0_2, false)) else (if a0_2 > 0 then (some (l0_0, a0_1, wrap64 (a0_2 - 1), true)) else (some (l0_0, a0_1, a0_2, true)))
theorem gafferref02_burnt.calls (P0_0_ : Nat → Prop) (u9000_ : Value) (l0_0 : List (S71)) (a0_1 : Bool) (a0_2 : Int) (r1 : List (S71)) (r2 : Bool) (r3 : Int) (r4 : Bool) (w0 w : World) (hB : Below w0.heap.size w0 w) (ho0_0 : Kd.R k71 71 w w0.heap.size P0_0_ u9000_ l0_0) (h : gafferref02_burnt.f l0_0 a0_1 a0_2 = some (r1, r2, r3, r4)) :
  Calls Try.prog 99 #[.agg #[u9000_, .bool a0_1, .int .i64 a0_2]] w fun e w' => ∃ v0_ : Value, e = .returned (.tuple #[.agg #[v0_, .bool r2, .int .i64 r3], .bool r4]) ∧ Kd.R k71 71 w' w0.heap.size (fun k_ => (P0_0_ k_ ∨ w.heap.size ≤ k_)) v0_ r1 ∧ Below w0.heap.size w0 w' ∧ Kept w w' (fun k_ => P0_0_ k_) := by
 have hu_1 := Try.underlying24
 have HO_1 := a_ (show Kd.R k71 71 w w0.heap.size (fun k_ => (P0_0_ k_ ∨ w.heap.size ≤ k_)) u9000_ l0_0 from Kd.R_mono ho0_0 (fun k_ hk => (.inl hk)))
 have HK := a_ (Kept.refl w (fun k_ => P0_0_ k_))
 have HW_1 := a_ hB.size
 have HB := a_ hB
 clear hB
 have H := h
 unfold gafferref02_burnt.f at H
 clear h
 by_cases c_1 : a0_2 = 0
 focus
  rw [if_pos c_1] at H
  obtain ⟨c_2, c_3⟩ := be_ c_1
  clear c_1
  obtain ⟨rfl, rfl, rfl, rfl⟩ := so4_ H
  obtain ⟨Ao_1, co_1, eo_1⟩ := Kd.R_slice HO_1.out
  subst eo_1
  have L0_ := trivial
 rotate_left
 focus
  rw [if_neg c_1] at H
  obtain ⟨c_2, c_3⟩ := bn_ c_1
  by_cases c_4 : a0_2 > 0
  rotate_left
  focus
   rw [if_neg c_4] at H
   have c_5 : decide (0 < a0_2) = false := decide_eq_false c_4
   clear c_4
   obtain ⟨rfl, rfl, rfl, rfl⟩ := so4_ H
   obtain ⟨Ao_1, co_1, eo_1⟩ := Kd.R_slice HO_1.out
   subst eo_1
   have L1_ := trivial
  rotate_left
  rw [if_pos c_4] at H
  have c_5 : decide (0 < a0_2) = true := decide_eq_true c_4
  clear c_4
  obtain ⟨rfl, rfl, rfl, rfl⟩ := so4_ H
  obtain ⟨Ao_1, co_1, eo_1⟩ := Kd.R_slice HO_1.out
  subst eo_1
  have L2_ := trivial
 all_goals
  go_enter Try.func99, Try.ntmps99
  go_wp2_with (first | ((with_reducible refine gd_ 1 ?_); refine bz_ 1 #[.slice Ao_1 l0_0.length co_1, .bool a0_1, .int .i64 a0_2] 24 ?_; intro gb_1 hg w_1 BK_1 hb; replace HO_1 := rb_ HO_1 hb; have GW_1 := a_ ((by rw [hg]; exact (by first | exact HK.out.1 | exact (show Kept w _ (fun k_ => P0_0_ k_) from by repeat (first | (with_reducible first | exact HK.out | apply Kept.alloc | apply Kept.drewN | apply Kept.drew) | exact HK.out)).1) : w.heap.size ≤ gb_1)); replace HK := a_ (Kept.below (S := (fun k_ => P0_0_ k_)) (by repeat (first | (with_reducible first | exact HK.out | apply Kept.alloc | apply Kept.drewN | apply Kept.drew) | exact HK.out)) hb); have GE_1 := a_ (bs_0 hg HB); replace HB := hB_ (bl_ HB) hb; clear hb hg) | ((with_reducible refine gd_ 2 ?_); refine bz_ 2 #[.slice none 0 0, .bool false, .int .i64 0] 24 ?_; intro gb_2 hg w_2 BK_2 hb; replace HO_1 := rb_ HO_1 hb; have GW_2 := a_ ((by rw [hg]; exact (by first | exact HK.out.1 | exact (show Kept w _ (fun k_ => P0_0_ k_) from by repeat (first | (with_reducible first | exact HK.out | apply Kept.alloc | apply Kept.drewN | apply Kept.drew | refine Kept.setCell ?_ (.inr GW_1.out) _) | exact HK.out)).1) : w.heap.size ≤ gb_2)); replace HK := a_ (Kept.below (S := (fun k_ => P0_0_ k_)) (by repeat (first | (with_reducible first | exact HK.out | apply Kept.alloc | apply Kept.drewN | apply Kept.drew | refine Kept.setCell ?_ (.inr GW_1.out) _) | exact HK.out)) hb); have GE_2 := a_ (bs_1 hg HB GE_1); replace HB := hB_ (bl_1 HB GE_1) hb; have NB_1 := nB_ hg BK_1; have NB_2 := nC_ hg BK_1; replace BK_1 := bB_ BK_1 hb; clear hb hg; have := NB_1.out; have := NB_2.out; obtain ⟨_, _, _, _, _, _⟩ := c3_ BK_1; obtain ⟨_, _, _, _, _, _⟩ := c3_ BK_2))
  first
  | (have _ := L0_
     refine bodyPost_ret (results_ct rfl _ _ gb_2 24 #[.slice Ao_1 l0_0.length co_1, .bool true, .int .i64 a0_2] (0, 0) _ rfl (bp_1 BK_2 NB_2) Try.underlying24 rfl (by kernel_rfl)) rfl ?_
     exact ⟨_, fz_, by refine rq_ ?_; exact Kd.R_mono (Kd.R_far (p := ⟨gb_2, 2, none⟩) (Kd.R_far (p := ⟨gb_2, 1, none⟩) (Kd.R_far (p := ⟨gb_2, 0, none⟩) (Kd.R_far (p := ⟨gb_1, 1, none⟩) (Kd.R_types (Kd.R_types HO_1.out BK_1.out (by decide)) BK_2.out (by decide)) (fun _ hk => hk.1.2) (.bool true)) (fun _ hk => hk.2) (.slice Ao_1 l0_0.length co_1)) (fun _ hk => hk.2) (.bool true)) (fun _ hk => hk.2) (.int .i64 a0_2)) (fun _ hk => hk.1.1), bl_2 HB GE_1 GE_2, by repeat (first | (with_reducible first | exact HK.out | apply Kept.alloc | apply Kept.drewN | apply Kept.drew | refine Kept.setCell ?_ (.inr GW_1.out) _ | refine Kept.setCell ?_ (.inr GW_2.out) _) | exact HK.out)⟩)
  | (have _ := L1_
     refine bodyPost_ret (results_ct rfl _ _ gb_2 24 #[.slice Ao_1 l0_0.length co_1, .bool a0_1, .int .i64 a0_2] (0, 0) _ rfl (bp_0 BK_2) Try.underlying24 rfl (by kernel_rfl)) rfl ?_
     exact ⟨_, fz_, by refine rq_ ?_; exact Kd.R_mono (Kd.R_far (p := ⟨gb_2, 2, none⟩) (Kd.R_far (p := ⟨gb_2, 1, none⟩) (Kd.R_far (p := ⟨gb_2, 0, none⟩) (Kd.R_types HO_1.out BK_2.out (by decide)) (fun _ hk => hk.2) (.slice Ao_1 l0_0.length co_1)) (fun _ hk => hk.2) (.bool a0_1)) (fun _ hk => hk.2) (.int .i64 a0_2)) (fun _ hk => hk.1), bl_2 HB GE_1 GE_2, by repeat (first | (with_reducible first | exact HK.out | apply Kept.alloc | apply Kept.drewN | apply Kept.drew | refine Kept.setCell ?_ (.inr GW_1.out) _ | refine Kept.setCell ?_ (.inr GW_2.out) _) | exact HK.out)⟩)
  | (have _ := L2_
     refine bodyPost_ret (results_ct rfl _ _ gb_2 24 #[.slice Ao_1 l0_0.length co_1, .bool a0_1, .int .i64 (wrap64 (a0_2 - 1))] (0, 0) _ rfl (bp_1 BK_2 NB_2) Try.underlying24 rfl (by kernel_rfl)) rfl ?_
     exact ⟨_, fz_, by refine rq_ ?_; exact Kd.R_mono (Kd.R_far (p := ⟨gb_2, 2, none⟩) (Kd.R_far (p := ⟨gb_2, 1, none⟩) (Kd.R_far (p := ⟨gb_2, 0, none⟩) (Kd.R_far (p := ⟨gb_1, 2, none⟩) (Kd.R_types (Kd.R_types HO_1.out BK_1.out (by decide)) BK_2.out (by decide)) (fun _ hk => hk.1.2) (.int .i64 (wrap64 (a0_2 - 1)))) (fun _ hk => hk.2) (.slice Ao_1 l0_0.length co_1)) (fun _ hk => hk.2) (.bool a0_1)) (fun _ hk => hk.2) (.int .i64 (wrap64 (a0_2 - 1)))) (fun _ hk => hk.1.1), bl_2 HB GE_1 GE_2, by repeat (first | (with_reducible first | exact HK.out | apply Kept.alloc | apply Kept.drewN | apply Kept.drew | refine Kept.setCell ?_ (.inr GW_1.out) _ | refine Kept.setCell ?_ (.inr GW_2.out) _) | exact HK.out)⟩)

def gafferref02_without.l0 : Nat → ByteArray → List (S71) → List (S71) → Int → Int → List (S71) → Bool → Int → Option ((List (S71)) × Bool × Int)
 | 0, _, _, _, _, _, _, _, _ => none
 | k + 1, x1, x5, x9, x10, x11, x484000, x484001, x484002 => if x11 < x10 then (if 0 ≤ x11 then (if x11 < (x9.length : Int) then (if ((rd_T71 x9 x11).f0).toList = x1.toList then (gafferref02_without.l0 k x1 x5 x9 x10 (wrap64 (x11 + 1)) x484000 x484001 x484002) else (if x5.length < 3518437208883 then (gafferref02_without.l0 k x1 (x5 ++ [(⟨(rd_T71 x9 x11).f0, (rd_T71 x9 x11).f1, (rd_T71 x9 x11).f2⟩ : S71)]) x9 x10 (wrap64 (x11 + 1)) x484000 x484001 x484002) else (none))) else (none)) else (none)) else (some (x5, x484001, x484002))
def gafferref02_without.f (k : Nat) (l0_0 : List (S71)) (a0_1 : Bool) (a0_2 : Int) (a1 : ByteArray) : Option ((List (S71)) × Bool × Int) := gafferref02_without.l0 k a1 ([] : List (S71)) l0_0 (l0_0.length : Int) 0 l0_0 a0_1 a0_2
theorem gafferref02_without.mono_l : ∀ k, (∀ y0 y1 y2 y3 y4 y5 y6 y7, LeO (gafferref02_without.l0 k y0 y1 y2 y3 y4 y5 y6 y7) (gafferref02_without.l0 (k + 1) y0 y1 y2 y3 y4 y5 y6 y7))
 | 0 => fun _ _ _ _ _ _ _ _ r h => by simp [gafferref02_without.l0] at h
 | k + 1 => by
  have ih0 := gafferref02_without.mono_l k
  ·intro y0 y1 y2 y3 y4 y5 y6 y7
   unfold gafferref02_without.l0
   repeat' with_reducible first | apply ih0 | apply LeO.refl | apply LeO.none | apply LeO.ite | refine LeO.bind ?_ (fun _ => ?_)
theorem gafferref02_without.mono : ∀ a0 a1 a2 a3 k, LeO (gafferref02_without.f k a0 a1 a2 a3) (gafferref02_without.f (k + 1) a0 a1 a2 a3) := by
 intro a0 a1 a2 a3 k
 have ih0 := gafferref02_without.mono_l k
 unfold gafferref02_without.f
 repeat' with_reducible first | apply ih0 | apply LeO.refl | apply LeO.none | apply LeO.ite | refine LeO.bind ?_ (fun _ => ?_)
theorem gafferref02_without.calls (k : Nat) (A0_0 : Option Addr) (c0_0 : Nat) (l0_0 : List (S71)) (a0_1 : Bool) (a0_2 : Int) (a1 : ByteArray) (r1 : List (S71)) (r2 : Bool) (r3 : Int) (w : World) (hr0_0 : Kd.C k71 w A0_0 l0_0.length l0_0) (hc0_0 : l0_0.length ≤ c0_0) (h : gafferref02_without.f k l0_0 a0_1 a0_2 a1 = some (r1, r2, r3)) :
  Calls Try.prog 100 #[.agg #[.slice A0_0 l0_0.length c0_0, .bool a0_1, .int .i64 a0_2], .string a1] w fun e w' => ∃ v0_ : Value, e = .returned (.agg #[v0_, .bool r2, .int .i64 r3]) ∧ Kd.R k71 71 w' w.heap.size (fun _ => True) v0_ r1 ∧ Below w.heap.size w w' := by
 have hu_1 := Try.underlying24
 have hu_2 := Try.underlying71
 have HR_1 := a_ hr0_0
 have HC_1 := a_ hc0_0
 clear hr0_0 hc0_0
 have HB := a_ (Below.refl w.heap.size w)
 have H := h
 unfold gafferref02_without.f at H
 clear h
 have H' := a_ H
 clear H
 go_enter Try.func100, Try.ntmps100
 go_wp2_with (first | ((with_reducible refine gd_ 2 ?_); refine bz_ 2 #[.slice A0_0 l0_0.length c0_0, .bool a0_1, .int .i64 a0_2] 24 ?_; intro gb_1 hg w_1 BK_1 hb; have GE_1 := a_ (bs_0 hg HB); replace HB := hB_ (bl_ HB) hb; clear hb hg) | ((with_reducible refine gd_ 4 ?_); refine bz_ 4 #[.slice none 0 0, .bool false, .int .i64 0] 24 ?_; intro gb_2 hg w_2 BK_2 hb; have GE_2 := a_ (bs_1 hg HB GE_1); replace HB := hB_ (bl_1 HB GE_1) hb; have NB_1 := nB_ hg BK_1; have NB_2 := nC_ hg BK_1; replace BK_1 := bB_ BK_1 hb; clear hb hg; have := NB_1.out; have := NB_2.out; obtain ⟨_, _, _, _, _, _⟩ := c3_ BK_1))
 go_loopg [5, 11] k (fun kq v5 v11 w' => ∃ (x5_1 : List (S71)) (x11_1 : Int), v11 = .int .i64 x11_1 ∧ Aside0 (gafferref02_without.l0 kq a1 x5_1 l0_0 (l0_0.length : Int) x11_1 l0_0 a0_1 a0_2 = some (r1, r2, r3)) ∧ Aside0 (kq ≤ k) ∧ Aside0 (Kd.R k71 71 w' w.heap.size (fun _ => True) v5 x5_1) ∧ Aside0 (w'.heap[gb_1]? = some (.cells #[(.slice A0_0 l0_0.length c0_0), .bool a0_1, .int .i64 a0_2] 24 (0, 0))) ∧ Aside0 (w'.heap[gb_2]? = some (.cells #[(.slice none 0 0), .bool false, .int .i64 0] 24 (0, 0))) ∧ Aside0 (Below w.heap.size w w'))
 case atStart => exact ⟨(([] : List (S71))), (0), fz_, H', ⟨Nat.le_refl _⟩, ⟨nl_⟩, ⟨bk_ BK_1⟩, ⟨bk_ BK_2⟩, ⟨bl_2 HB GE_1 GE_2⟩⟩
 case round =>
  clear H'
  obtain ⟨x_1, x_2, rfl, HA, HK_1, HO_1, BK_1, BK_2, HB⟩ := hrel
  cases gk with
  | zero => exact absurd HA.out (by simp [gafferref02_without.l0])
  | succ k1 =>
   have H := HA.out
   clear HA
   simp only [gafferref02_without.l0] at H
   by_cases c_1 : x_2 < (l0_0.length : Int)
   rotate_left
   ·rw [if_neg c_1] at H
    have c_2 : decide (x_2 < (l0_0.length : Int)) = false := decide_eq_false c_1
    clear c_1
    obtain ⟨rfl, rfl, rfl⟩ := so3_ H
    obtain ⟨Ao_1, co_1, eo_1⟩ := Kd.R_slice HO_1.out
    subst eo_1
    have := NB_1.out
    have := NB_2.out
    obtain ⟨_, _, _, _, _, _⟩ := c3_ BK_1
    obtain ⟨_, _, _, _, _, _⟩ := c3_ BK_2
    go_wp2
    refine bodyPost_ret (results_cell_row rfl _ _ gb_2 24 #[.slice Ao_1 x_1.length co_1, .bool a0_1, .int .i64 a0_2] (0, 0) _ rfl (bp_1 BK_2 NB_2) Try.underlying24 rfl (by kernel_rfl)) rfl ?_
    exact ⟨_, fz_, by refine rq_ ?_; exact rf2_ HO_1 BK_1 BK_2, bl_2 HB GE_1 GE_2⟩
   rw [if_pos c_1] at H
   have c_2 : decide (x_2 < (l0_0.length : Int)) = true := decide_eq_true c_1
   clear c_1
   replace H := ip_ H
   obtain ⟨-, c_4, H⟩ := H
   replace H := ip_ H
   obtain ⟨-, c_6, H⟩ := H
   by_cases c_7 : ((rd_T71 l0_0 x_2).f0).toList = a1.toList
   ·rw [if_pos c_7] at H
    obtain ⟨c_8, c_9⟩ := be_ c_7
    clear c_7
    have H' := a_ H
    clear H
    have p_1 : 0 ≤ (x_2 : Int) := od_
    have q_1 : x_2 < (l0_0.length : Int) := od_
    obtain ⟨ad_1, e_1, hx_1, hx_2, hx_3⟩ := at_T71 HR_1.out x_2 p_1 q_1
    cases e_1
    replace hx_1 := hc_ HB hx_1
    replace hx_2 := hc_ HB hx_2
    replace hx_3 := hc_ HB hx_3
    replace p_1 := eq_true p_1
    replace q_1 := eq_true q_1
    go_wp2_with (first | ((with_reducible refine gd_ 7 ?_); refine bz_ 7 #[.string (⟨#[]⟩ : ByteArray), .string (⟨#[]⟩ : ByteArray), .int .i64 0] 71 ?_; intro gb_3 hg w_3 BK_3 hb; replace HO_1 := a_ (Kd.R_below (Kd.R_elderB (by refine rq_ ?_; exact HO_1.out) gb_3 (Nat.le_of_eq hg.symm)) hb); have GE_3 := a_ (bs_2 hg HB GE_1 GE_2); replace HB := hB_ (bl_2 HB GE_1 GE_2) hb; have NB_3 := nB_ hg BK_1; have NB_4 := nC_ hg BK_1; replace BK_1 := bB_ BK_1 hb; have NB_5 := nB_ hg BK_2; have NB_6 := nC_ hg BK_2; replace BK_2 := bB_ BK_2 hb; clear hb hg; have := NB_4.out; have := NB_3.out; have := NB_6.out; have := NB_5.out; obtain ⟨_, _, _, _, _, _⟩ := c3_ BK_3))
    go_roundg k1
    case measure => have := HK_1.out; omega
    case rel => exact ⟨(x_1), (wrap64 (x_2 + 1)), fz_, H', ⟨by have := HK_1.out; omega⟩, ⟨by refine rq_ ?_; exact Kd.R_mono (Kd.R_far (p := ⟨gb_3, 2, none⟩) (Kd.R_far (p := ⟨gb_3, 1, none⟩) (Kd.R_far (p := ⟨gb_3, 0, none⟩) (Kd.R_mono HO_1.out (fun k_ hk => (⟨hk, hk.2⟩ : _ ∧ k_ ≠ gb_3))) (fun _ hk => hk.2) (.string ((rd_T71 l0_0 x_2).f0))) (fun _ hk => hk.2) (.string ((rd_T71 l0_0 x_2).f1))) (fun _ hk => hk.2) (.int .i64 ((rd_T71 l0_0 x_2).f2))) (fun _ hk => trivial)⟩, ⟨by refine bq_ ?_; refine blk_far ?_ NB_3.out _; refine bq_ ?_; refine blk_far ?_ NB_3.out _; refine bq_ ?_; refine blk_far ?_ NB_3.out _; refine bq_ ?_; exact BK_1.out⟩, ⟨by refine bq_ ?_; refine blk_far ?_ NB_5.out _; refine bq_ ?_; refine blk_far ?_ NB_5.out _; refine bq_ ?_; refine blk_far ?_ NB_5.out _; refine bq_ ?_; exact BK_2.out⟩, ⟨bl_3 HB GE_1 GE_2 GE_3⟩⟩
   rw [if_neg c_7] at H
   obtain ⟨c_8, c_9⟩ := bn_ c_7
   replace H := iq_ H
   obtain ⟨c_10, H⟩ := H
   have LMc_1 := a_ c_10
   clear c_10
   obtain ⟨y_1, hy_1⟩ : ∃ y_ : List (S71), y_ = (x_1 ++ [(⟨(rd_T71 l0_0 x_2).f0, (rd_T71 l0_0 x_2).f1, (rd_T71 l0_0 x_2).f2⟩ : S71)]) := ⟨_, rfl⟩
   replace H : (gafferref02_without.l0 k1 a1 y_1 l0_0 (l0_0.length : Int) (wrap64 (x_2 + 1)) l0_0 a0_1 a0_2) = some (r1, r2, r3) := by first | (rw [hy_1]; with_reducible exact H) | (have H_1 := (Option.bind_some _ _).symm.trans H; rw [hy_1]; with_reducible exact H_1) | (have H_1 := (Option.bind_some _ _).symm.trans H; with_reducible exact H_1) | with_reducible exact H | (rw [hy_1]; exact H) | exact H
   have Ny_1 := a_ hy_1
   clear hy_1
   have H' := a_ H
   clear H
   have p_1 : 0 ≤ (x_2 : Int) := od_
   have q_1 : x_2 < (l0_0.length : Int) := od_
   obtain ⟨ad_1, e_1, hx_1, hx_2, hx_3⟩ := at_T71 HR_1.out x_2 p_1 q_1
   cases e_1
   replace hx_1 := hc_ HB hx_1
   replace hx_2 := hc_ HB hx_2
   replace hx_3 := hc_ HB hx_3
   replace p_1 := eq_true p_1
   replace q_1 := eq_true q_1
   go_wp2_with (first | ((with_reducible refine gd_ 7 ?_); refine bz_ 7 #[.string (⟨#[]⟩ : ByteArray), .string (⟨#[]⟩ : ByteArray), .int .i64 0] 71 ?_; intro gb_3 hg w_4 BK_3 hb; replace HO_1 := a_ (Kd.R_below (Kd.R_elderB (by refine rq_ ?_; exact HO_1.out) gb_3 (Nat.le_of_eq hg.symm)) hb); have GE_3 := a_ (bs_2 hg HB GE_1 GE_2); replace HB := hB_ (bl_2 HB GE_1 GE_2) hb; have NB_3 := nB_ hg BK_1; have NB_4 := nC_ hg BK_1; replace BK_1 := bB_ BK_1 hb; have NB_5 := nB_ hg BK_2; have NB_6 := nC_ hg BK_2; replace BK_2 := bB_ BK_2 hb; clear hb hg; have := NB_4.out; have := NB_3.out; have := NB_6.out; have := NB_5.out; obtain ⟨_, _, _, _, _, _⟩ := c3_ BK_3) | ((with_reducible refine gate_builtin (b := .append) (xs := #[.tmp 19, .tmp 21]) rfl ?_); at_builtin; refine Kd.R_append k71 (w0 := w) w.heap.size rfl (.tmp 19) (.tmp 21) 22 71 (.agg #[(.string ⟨#[]⟩), (.string ⟨#[]⟩), (.int .i64 0)]) 40 rfl Try.underlying22 info71 rfl (by decide) (by omega) u5 x_1 (⟨(rd_T71 l0_0 x_2).f0, (rd_T71 l0_0 x_2).f1, (rd_T71 l0_0 x_2).f2⟩ : S71) [.string ((rd_T71 l0_0 x_2).f0), .string ((rd_T71 l0_0 x_2).f1), .int .i64 ((rd_T71 l0_0 x_2).f2)] (fun k_ => k_ ≠ gb_3) (fun _ => False) rfl (by first | (go_simp; done) | (go_simp; rfl)) ?aP (fun _ hk => hk.elim) ?aF ?aO ?aB ?aS ?aL ?_; (case aP => exact k71_mkM _ _ _ (⟨(rd_T71 l0_0 x_2).f0, (rd_T71 l0_0 x_2).f1, (rd_T71 l0_0 x_2).f2⟩ : S71)); (case aB => exact (bl_3 HB GE_1 GE_2 GE_3)); (case aF => exact (fun k_ hk => Kd.freshB (g := gb_3) (o := .cells #[.string ((rd_T71 l0_0 x_2).f0), .string ((rd_T71 l0_0 x_2).f1), .int .i64 ((rd_T71 l0_0 x_2).f2)] 71 (0, 0)) (bp_0 BK_3) k_ hk)); (case aO => exact (by refine rq_ ?_; exact Kd.R_mono (Kd.R_far (p := ⟨gb_3, 2, none⟩) (Kd.R_far (p := ⟨gb_3, 1, none⟩) (Kd.R_far (p := ⟨gb_3, 0, none⟩) (Kd.R_mono HO_1.out (fun k_ hk => (⟨hk, hk.2⟩ : _ ∧ k_ ≠ gb_3))) (fun _ hk => hk.2) (.string ((rd_T71 l0_0 x_2).f0))) (fun _ hk => hk.2) (.string ((rd_T71 l0_0 x_2).f1))) (fun _ hk => hk.2) (.int .i64 ((rd_T71 l0_0 x_2).f2))) (fun _ hk => hk.1.2))); (case aS => exact (below_size (bl_3 HB GE_1 GE_2 GE_3))); (case aL => have := LMc_1.out; omega); intro v_1 w_5 ho hb hg hat; rw [← Ny_1.out] at ho; replace BK_1 := a_ (blk_grown (g := gb_1) (o := .cells #[.slice (some ad_1) l0_0.length c0_0, .bool a0_1, .int .i64 a0_2] 24 (0, 0)) (bp_1 BK_1 NB_3) hg (Kd.R_ne HO_1.out BK_1.out (by decide))); replace BK_2 := a_ (blk_grown (g := gb_2) (o := .cells #[.slice none 0 0, .bool false, .int .i64 0] 24 (0, 0)) (bp_1 BK_2 NB_5) hg (Kd.R_ne HO_1.out BK_2.out (by decide))); replace BK_3 := a_ (blk_grown (g := gb_3) (o := .cells #[.string ((rd_T71 l0_0 x_2).f0), .string ((rd_T71 l0_0 x_2).f1), .int .i64 ((rd_T71 l0_0 x_2).f2)] 71 (0, 0)) (bp_0 BK_3) hg (Kd.R_away HO_1.out (fun _ hk => hk.2))); replace HB := a_ (hb); have HO_2 := a_ (ho); clear HO_1; clear ho hb hg hat))
   go_roundg k1
   case measure => have := HK_1.out; omega
   case rel => exact ⟨(y_1), (wrap64 (x_2 + 1)), fz_, H', ⟨by have := HK_1.out; omega⟩, ⟨by refine rq_ ?_; exact Kd.R_mono HO_2.out (fun _ hk => trivial)⟩, ⟨bk_ BK_1⟩, ⟨bk_ BK_2⟩, ⟨bl_3 HB GE_1 GE_2 GE_3⟩⟩

mutual
def gafferref02_Drop.j0 : Nat → ByteArray → Int → Bool → List (S71) → Bool → Int → Option ((List (S71)) × Bool × Int × Int)
 | 0, _, _, _, _, _, _ => none
 | k + 1, x1, x6, x18, x491000, x491001, x491002 => if x18 = true then (gafferref02_Drop.j1 k x1 6 x491000 x491001 x491002) else (gafferref02_Drop.j1 k x1 x6 x491000 x491001 x491002)
def gafferref02_Drop.j1 : Nat → ByteArray → Int → List (S71) → Bool → Int → Option ((List (S71)) × Bool × Int × Int)
 | 0, _, _, _, _, _ => none
 | k + 1, x1, x6, x491000, x491001, x491002 => if x6 = 0 then ((gafferref02_Copy.f x491000 x491001 x491002).bind fun bt500 => ((gafferref02_burnt.f bt500.1 bt500.2.1 bt500.2.2).bind fun bt505 => (if bt505.2.2.2 = true then ((gafferref02_without.f k bt505.1 bt505.2.1 bt505.2.2.1 x1).bind fun bt512 => (some (bt512.1, bt512.2.1, bt512.2.2, 0))) else (some (bt505.1, bt505.2.1, bt505.2.2.1, 8))))) else ((gafferref02_bad.f x491000 x491001 x491002 x6).bind fun bt494 => (some (bt494.1, bt494.2.1, bt494.2.2.1, bt494.2.2.2)))
end
def gafferref02_Drop.f (k : Nat) (l0_0 : List (S71)) (a0_1 : Bool) (a0_2 : Int) (a1 : ByteArray) : Option ((List (S71)) × Bool × Int × Int) := (gafferref02_ready.f k l0_0 a0_1 a0_2).bind fun t492 => (if t492 = 0 then ((gafferref02_find.f k l0_0 a0_1 a0_2 a1).bind fun t493 => (gafferref02_Drop.j0 k a1 t492 (decide (t493 < 0)) l0_0 a0_1 a0_2)) else (gafferref02_Drop.j0 k a1 t492 false l0_0 a0_1 a0_2))
theorem gafferref02_Drop.mono_l : ∀ k, (∀ y0 y1 y2 y3 y4 y5, LeO (gafferref02_Drop.j0 k y0 y1 y2 y3 y4 y5) (gafferref02_Drop.j0 (k + 1) y0 y1 y2 y3 y4 y5)) ∧ (∀ y0 y1 y2 y3 y4, LeO (gafferref02_Drop.j1 k y0 y1 y2 y3 y4) (gafferref02_Drop.j1 (k + 1) y0 y1 y2 y3 y4))
 | 0 => ⟨fun _ _ _ _ _ _ r h => by simp [gafferref02_Drop.j0] at h, fun _ _ _ _ _ r h => by simp [gafferref02_Drop.j1] at h⟩
 | k + 1 => by
  obtain ⟨ih0, ih1⟩ := gafferref02_Drop.mono_l k
  refine ⟨?_, ?_⟩
  ·intro y0 y1 y2 y3 y4 y5
   unfold gafferref02_Drop.j0
   repeat' with_reducible first | apply ih0 | apply ih1 | apply gafferref02_find.mono | apply gafferref02_ready.mono | apply gafferref02_without.mono | apply LeO.refl | apply LeO.none | apply LeO.ite | refine LeO.bind ?_ (fun _ => ?_)
  ·intro y0 y1 y2 y3 y4
   unfold gafferref02_Drop.j1
   repeat' with_reducible first | apply ih0 | apply ih1 | apply gafferref02_find.mono | apply gafferref02_ready.mono | apply gafferref02_without.mono | apply LeO.refl | apply LeO.none | apply LeO.ite | refine LeO.bind ?_ (fun _ => ?_)
theorem gafferref02_Drop.mono : ∀ a0 a1 a2 a3 k, LeO (gafferref02_Drop.f k a0 a1 a2 a3) (gafferref02_Drop.f (k + 1) a0 a1 a2 a3) := by
 intro a0 a1 a2 a3 k
 obtain ⟨ih0, ih1⟩ := gafferref02_Drop.mono_l k
 unfold gafferref02_Drop.f
 repeat' with_reducible first | apply ih0 | apply ih1 | apply gafferref02_find.mono | apply gafferref02_ready.mono | apply gafferref02_without.mono | apply LeO.refl | apply LeO.none | apply LeO.ite | refine LeO.bind ?_ (fun _ => ?_)
theorem gafferref02_Drop.calls (k : Nat) (A0_0 : Option Addr) (c0_0 : Nat) (l0_0 : List (S71)) (a0_1 : Bool) (a0_2 : Int) (a1 : ByteArray) (r1 : List (S71)) (r2 : Bool) (r3 : Int) (r4 : Int) (w : World) (hr0_0 : Kd.C k71 w A0_0 l0_0.length l0_0) (hc0_0 : l0_0.length ≤ c0_0) (h : gafferref02_Drop.f k l0_0 a0_1 a0_2 a1 = some (r1, r2, r3, r4)) :
  Calls Try.prog 75 #[.agg #[.slice A0_0 l0_0.length c0_0, .bool a0_1, .int .i64 a0_2], .string a1] w fun e w' => ∃ v0_ : Value, e = .returned (.tuple #[.agg #[v0_, .bool r2, .int .i64 r3], .int .i64 r4]) ∧ Kd.R k71 71 w' w.heap.size (fun _ => True) v0_ r1 ∧ Below w.heap.size w w' := by
 have hu_1 := Try.underlying24
 have HR_1 := a_ hr0_0
 have HC_1 := a_ hc0_0
 clear hr0_0 hc0_0
 have HB := a_ (Below.refl w.heap.size w)
 have H := h
 unfold gafferref02_Drop.f at H
 clear h
 obtain ⟨t_1, A_2, H⟩ := ob_ H
 try dsimp only at H
 have HC_2 := a_ H
 clear H
 go_enter Try.func75, Try.ntmps75
 go_upto_region 2 with (first | ((with_reducible refine gd_ 2 ?_); refine bz_ 2 #[.slice A0_0 l0_0.length c0_0, .bool a0_1, .int .i64 a0_2] 24 ?_; intro gb_1 hg w_1 BK_1 hb; have GE_1 := a_ (bs_0 hg HB); replace HB := hB_ (bl_ HB) hb; clear hb hg) | ((with_reducible refine gd_ 4 ?_); refine bz_ 4 #[.slice none 0 0, .bool false, .int .i64 0] 24 ?_; intro gb_2 hg w_2 BK_2 hb; have GE_2 := a_ (bs_1 hg HB GE_1); replace HB := hB_ (bl_1 HB GE_1) hb; have NB_1 := nB_ hg BK_1; have NB_2 := nC_ hg BK_1; replace BK_1 := bB_ BK_1 hb; clear hb hg; have := NB_1.out; have := NB_2.out; obtain ⟨_, _, _, _, _, _⟩ := c3_ BK_1) | ((with_reducible refine gk_ 97 ?_); refine gl_ (some 10) Try.func97 #[.agg #[.slice A0_0 l0_0.length c0_0, .bool a0_1, .int .i64 a0_2]] ?_; (with_reducible refine (gafferref02_ready.calls _ _ _ _ _ _ _ _ ?side1 ?side2 A_2.out).mono ?_); (case side1 => exact cl_ (Kd.C_below HR_1.out HB.out)); (case side2 => exact HC_1.out); rintro e w_3 ⟨rfl, hb⟩; refine ⟨_, rfl, ?_⟩; replace BK_1 := bB_ BK_1 hb; replace BK_2 := bB_ BK_2 hb; replace HB := hB_ (bl_2 HB GE_1 GE_2) hb; (try clear hb)))
 (try simp only [Act.put, List.setIfInBounds_toArray, List.set_cons_zero, List.set_cons_succ])
 go_cut [18] (fun v18 wc => ∃ (kq : Nat) (x18_3 : Bool), v18 = .bool x18_3 ∧ Aside0 (gafferref02_Drop.j0 kq a1 t_1 x18_3 l0_0 a0_1 a0_2 = some (r1, r2, r3, r4)) ∧ Aside0 (kq ≤ k) ∧ Aside0 (wc.heap[gb_1]? = some (.cells #[(.slice A0_0 l0_0.length c0_0), .bool a0_1, .int .i64 a0_2] 24 (0, 0))) ∧ Aside0 (wc.heap[gb_2]? = some (.cells #[(.slice none 0 0), .bool false, .int .i64 0] 24 (0, 0))) ∧ Aside0 (Below w.heap.size w wc))
 case first =>
  have H := HC_2.out
  clear HC_2
  by_cases c_1 : t_1 = 0
  rotate_left
  focus
   rw [if_neg c_1] at H
   obtain ⟨c_2, c_3⟩ := bn_ c_1
   (first | rw [c_2] | (simp only [i64_w, i32_w]; rw [c_2]) | skip)
   have H' := a_ H
   clear H
   have L0_ := trivial
  rotate_left
  rw [if_pos c_1] at H
  obtain ⟨c_2, c_3⟩ := be_ c_1
  clear c_1
  (first | rw [c_2] | (simp only [i64_w, i32_w]; rw [c_2]) | skip)
  obtain ⟨t_2, A_4, H⟩ := ob_ H
  try dsimp only at H
  have H' := a_ H
  clear H
  have := NB_1.out
  have := NB_2.out
  obtain ⟨_, _, _, _, _, _⟩ := c3_ BK_1
  have L1_ := trivial
  all_goals
   first
   | (have _ := L0_
      go_wp2
      go_meet
      case rel => exact ⟨_, (false), fz_, H', ⟨by first | omega | exact Nat.le_refl _⟩, ⟨bk_ BK_1⟩, ⟨bk_ BK_2⟩, ⟨bl_2 HB GE_1 GE_2⟩⟩)
   | (have _ := L1_
      go_wp2_with (go_at_call 64; (with_reducible refine (gafferref02_find.calls _ _ _ _ _ _ _ _ _ ?side1 ?side2 A_4.out).mono ?_); (case side1 => exact cl_ (Kd.C_below HR_1.out HB.out)); (case side2 => exact HC_1.out); rintro e w_4 ⟨rfl, hb⟩; replace BK_1 := bB_ BK_1 hb; replace BK_2 := bB_ BK_2 hb; replace HB := hB_ (bl_2 HB GE_1 GE_2) hb; (try clear hb))
      go_meet
      case rel => exact ⟨_, (decide (t_2 < 0)), fz_, H', ⟨by first | omega | exact Nat.le_refl _⟩, ⟨bk_ BK_1⟩, ⟨bk_ BK_2⟩, ⟨bl_2 HB GE_1 GE_2⟩⟩)
 case rest =>
  clear HC_2
  obtain ⟨kq, x_1, rfl, HA, HJ_1, BK_1, BK_2, HB⟩ := hcut
  cases kq with
  | zero => exact absurd HA.out (by simp [gafferref02_Drop.j0])
  | succ kj3 =>
   have H := HA.out
   clear HA
   simp only [gafferref02_Drop.j0] at H
   have HC_3 := a_ H
   clear H
   go_upto_if 18 with (fail)
   go_cut [6] (fun v6 wc => ∃ (kq : Nat) (x6_14 : Int), v6 = .int .i64 x6_14 ∧ Aside0 (gafferref02_Drop.j1 kq a1 x6_14 l0_0 a0_1 a0_2 = some (r1, r2, r3, r4)) ∧ Aside0 (kq ≤ kj3) ∧ Aside0 (wc.heap[gb_1]? = some (.cells #[(.slice A0_0 l0_0.length c0_0), .bool a0_1, .int .i64 a0_2] 24 (0, 0))) ∧ Aside0 (wc.heap[gb_2]? = some (.cells #[(.slice none 0 0), .bool false, .int .i64 0] 24 (0, 0))) ∧ Aside0 (Below w.heap.size w wc))
   case first =>
    have H := HC_3.out
    clear HC_3
    by_cases c_2 : x_1 = true
    ·subst c_2
     rw [if_pos rfl] at H
     have H' := a_ H
     clear H
     go_wp2
     go_meet
     case rel => exact ⟨_, (6), fz_, H', ⟨by have := HJ_1.out; first | omega | exact Nat.le_refl _⟩, ⟨bk_ BK_1⟩, ⟨bk_ BK_2⟩, ⟨bl_2 HB GE_1 GE_2⟩⟩
    replace c_2 := Bool.eq_false_iff.mpr c_2
    subst c_2
    rw [if_neg (show ¬ (false = true) by decide)] at H
    have H' := a_ H
    clear H
    go_wp2
    go_meet
    case rel => exact ⟨_, (t_1), fz_, H', ⟨by have := HJ_1.out; first | omega | exact Nat.le_refl _⟩, ⟨bk_ BK_1⟩, ⟨bk_ BK_2⟩, ⟨bl_2 HB GE_1 GE_2⟩⟩
   case rest =>
    clear HC_3
    obtain ⟨kq, x_2, rfl, HA, HJ_2, BK_1, BK_2, HB⟩ := hcut
    cases kq with
    | zero => exact absurd HA.out (by simp [gafferref02_Drop.j1])
    | succ kj14 =>
     have H := HA.out
     clear HA
     simp only [gafferref02_Drop.j1] at H
     by_cases c_3 : x_2 = 0
     rotate_left
     ·rw [if_neg c_3] at H
      obtain ⟨c_4, c_5⟩ := bn_ c_3
      obtain ⟨⟨t_2, t_3, t_4, t_5⟩, A_4, H⟩ := ob_ H
      try dsimp only at H
      obtain ⟨rfl, rfl, rfl, rfl⟩ := so4_ H
      have := NB_1.out
      have := NB_2.out
      obtain ⟨_, _, _, _, _, _⟩ := c3_ BK_1
      go_wp2_with (first | ((with_reducible refine gk_ 98 ?_); refine gl_ (some 23) Try.func98 #[.agg #[.slice A0_0 l0_0.length c0_0, .bool a0_1, .int .i64 a0_2], .int .i64 x_2] ?_; (with_reducible refine (gafferref02_bad.calls _ _ _ _ _ _ _ _ _ _ _ ?side1 ?side2 A_4.out).mono ?_); (case side1 => exact cl_ (Kd.C_below HR_1.out HB.out)); (case side2 => exact HC_1.out); rintro e w_4 ⟨v_1, rfl, ho_1, hb⟩; refine ⟨_, rfl, ?_⟩; have HO_1 := a_ (Kd.R_lower ho_1 (below_size (bl_2 HB GE_1 GE_2))); replace BK_1 := bB_ BK_1 hb; replace BK_2 := bB_ BK_2 hb; replace HB := hB_ (bl_2 HB GE_1 GE_2) hb; (try clear hb); (try clear ho_1); obtain ⟨Ao_1, co_1, eo_1⟩ := Kd.R_slice HO_1.out; subst eo_1; obtain ⟨_, _, _, _, _, _⟩ := c3_ BK_2))
      refine bodyPost_ret (results_ct rfl _ _ gb_2 24 #[.slice Ao_1 t_2.length co_1, .bool t_3, .int .i64 t_4] (0, 0) _ rfl (bp_0 BK_2) Try.underlying24 rfl (by kernel_rfl)) rfl ?_
      exact ⟨_, fz_, by refine rq_ ?_; exact rf1_ HO_1 BK_2, bl_2 HB GE_1 GE_2⟩
     rw [if_pos c_3] at H
     obtain ⟨c_4, c_5⟩ := be_ c_3
     clear c_3
     obtain ⟨⟨t_6, t_7, t_8⟩, A_6, H⟩ := ob_ H
     try dsimp only at H
     obtain ⟨⟨t_9, t_10, t_11, t_12⟩, A_8, H⟩ := ob_ H
     try dsimp only at H
     by_cases c_6 : t_12 = true
     rotate_left
     ·replace c_6 := Bool.eq_false_iff.mpr c_6
      subst c_6
      rw [if_neg (show ¬ (false = true) by decide)] at H
      obtain ⟨rfl, rfl, rfl, rfl⟩ := so4_ H
      have := NB_1.out
      have := NB_2.out
      obtain ⟨_, _, _, _, _, _⟩ := c3_ BK_1
      go_wp2_with (first | ((with_reducible refine gk_ 14 ?_); refine gl_ (some 28) Try.func14 #[.agg #[.slice A0_0 l0_0.length c0_0, .bool a0_1, .int .i64 a0_2]] ?_; (with_reducible refine (gafferref02_Copy.calls _ _ _ _ _ _ _ _ _ ?side1 ?side2 A_6.out).mono ?_); (case side1 => exact cl_ (Kd.C_below HR_1.out HB.out)); (case side2 => exact HC_1.out); rintro e w_5 ⟨v_2, rfl, ho_1, hb⟩; refine ⟨_, rfl, ?_⟩; have HO_2 := a_ (Kd.R_lower ho_1 (below_size (bl_2 HB GE_1 GE_2))); replace BK_1 := bB_ BK_1 hb; replace BK_2 := bB_ BK_2 hb; replace HB := hB_ (bl_2 HB GE_1 GE_2) hb; (try clear hb); (try clear ho_1); obtain ⟨Ao_2, co_2, eo_2⟩ := Kd.R_slice HO_2.out; subst eo_2) | ((with_reducible refine gk_ 99 ?_); refine gl_ (some 29) Try.func99 #[.agg #[.slice Ao_2 t_6.length co_2, .bool t_7, .int .i64 t_8]] ?_; (with_reducible refine (gafferref02_burnt.calls (fun k_ => some k_ = (.slice Ao_2 t_6.length co_2 : Value).ownBlock) _ _ _ _ _ _ _ _ w _ ?side1 ?side2 A_8.out).mono ?_); (case side1 => exact hb2_ HB GE_1.out GE_2.out); (case side2 => exact Kd.R_tight rfl HO_2.out); rintro e w_6 ⟨v_3, rfl, ho_1, hb, hkp⟩; refine ⟨_, rfl, ?_⟩; replace BK_1 := kp_ BK_1 hkp HO_2; replace BK_2 := kp_ BK_2 hkp HO_2; have HO_3 := rt_ ho_1; replace HB := a_ (hb); clear HO_2; (try clear hb); (try clear hkp); (try clear ho_1)) | ((with_reducible refine gd_ 7 ?_); refine bz_ 7 #[.slice none 0 0, .bool false, .int .i64 0] 24 ?_; intro gb_3 hg w_7 BK_3 hb; replace HO_3 := rb_ HO_3 hb; have GE_3 := a_ (bs_2 hg HB GE_1 GE_2); replace HB := hB_ (bl_2 HB GE_1 GE_2) hb; have NB_3 := nB_ hg BK_1; have NB_4 := nC_ hg BK_1; replace BK_1 := bB_ BK_1 hb; have NB_5 := nB_ hg BK_2; have NB_6 := nC_ hg BK_2; replace BK_2 := bB_ BK_2 hb; clear hb hg; obtain ⟨Ao_3, co_3, eo_3⟩ := Kd.R_slice HO_3.out; subst eo_3; have := NB_4.out; have := NB_3.out; have := NB_6.out; have := NB_5.out; obtain ⟨_, _, _, _, _, _⟩ := c3_ BK_3; obtain ⟨_, _, _, _, _, _⟩ := c3_ BK_2))
      refine bodyPost_ret (results_ct rfl _ _ gb_2 24 #[.slice Ao_3 t_9.length co_3, .bool t_10, .int .i64 t_11] (0, 0) _ rfl (bp_1 BK_2 NB_5) Try.underlying24 rfl (by kernel_rfl)) rfl ?_
      exact ⟨_, fz_, by refine rq_ ?_; exact rf2_ HO_3 BK_3 BK_2, bl_3 HB GE_1 GE_2 GE_3⟩
     subst c_6
     rw [if_pos rfl] at H
     obtain ⟨⟨t_13, t_14, t_15⟩, A_10, H⟩ := ob_ H
     try dsimp only at H
     obtain ⟨rfl, rfl, rfl, rfl⟩ := so4_ H
     have := NB_1.out
     have := NB_2.out
     obtain ⟨_, _, _, _, _, _⟩ := c3_ BK_1
     go_wp2_with (first | ((with_reducible refine gk_ 14 ?_); refine gl_ (some 28) Try.func14 #[.agg #[.slice A0_0 l0_0.length c0_0, .bool a0_1, .int .i64 a0_2]] ?_; (with_reducible refine (gafferref02_Copy.calls _ _ _ _ _ _ _ _ _ ?side1 ?side2 A_6.out).mono ?_); (case side1 => exact cl_ (Kd.C_below HR_1.out HB.out)); (case side2 => exact HC_1.out); rintro e w_8 ⟨v_2, rfl, ho_1, hb⟩; refine ⟨_, rfl, ?_⟩; have HO_2 := a_ (Kd.R_lower ho_1 (below_size (bl_2 HB GE_1 GE_2))); replace BK_1 := bB_ BK_1 hb; replace BK_2 := bB_ BK_2 hb; replace HB := hB_ (bl_2 HB GE_1 GE_2) hb; (try clear hb); (try clear ho_1); obtain ⟨Ao_4, co_4, eo_4⟩ := Kd.R_slice HO_2.out; subst eo_4) | ((with_reducible refine gk_ 99 ?_); refine gl_ (some 29) Try.func99 #[.agg #[.slice Ao_4 t_6.length co_4, .bool t_7, .int .i64 t_8]] ?_; (with_reducible refine (gafferref02_burnt.calls (fun k_ => some k_ = (.slice Ao_4 t_6.length co_4 : Value).ownBlock) _ _ _ _ _ _ _ _ w _ ?side1 ?side2 A_8.out).mono ?_); (case side1 => exact hb2_ HB GE_1.out GE_2.out); (case side2 => exact Kd.R_tight rfl HO_2.out); rintro e w_9 ⟨v_3, rfl, ho_1, hb, hkp⟩; refine ⟨_, rfl, ?_⟩; replace BK_1 := kp_ BK_1 hkp HO_2; replace BK_2 := kp_ BK_2 hkp HO_2; have HO_3 := rt_ ho_1; replace HB := a_ (hb); clear HO_2; (try clear hb); (try clear hkp); (try clear ho_1)) | ((with_reducible refine gd_ 7 ?_); refine bz_ 7 #[.slice none 0 0, .bool false, .int .i64 0] 24 ?_; intro gb_3 hg w_10 BK_3 hb; replace HO_3 := rb_ HO_3 hb; have GE_3 := a_ (bs_2 hg HB GE_1 GE_2); replace HB := hB_ (bl_2 HB GE_1 GE_2) hb; have NB_3 := nB_ hg BK_1; have NB_4 := nC_ hg BK_1; replace BK_1 := bB_ BK_1 hb; have NB_5 := nB_ hg BK_2; have NB_6 := nC_ hg BK_2; replace BK_2 := bB_ BK_2 hb; clear hb hg; obtain ⟨Ao_5, co_5, eo_5⟩ := Kd.R_slice HO_3.out; subst eo_5; have := NB_4.out; have := NB_3.out; have := NB_6.out; have := NB_5.out; obtain ⟨_, _, _, _, _, _⟩ := c3_ BK_3) | ((with_reducible refine gk_ 100 ?_); refine gl_ (some 37) Try.func100 #[.agg #[.slice Ao_5 t_9.length co_5, .bool t_10, .int .i64 t_11], .string a1] ?_; (with_reducible refine (gafferref02_without.calls _ _ _ _ _ _ _ _ _ _ _ ?side1 ?side2 A_10.out).mono ?_); (case side1 => refine (Kd.R_reads' (e := 71) (base := w.heap.size) (ok := fun k_ => True) (n := t_9.length) (c := co_5) ?_).2.2; exact (by refine rq_ ?_; exact (rf1_ HO_3 BK_3))); (case side2 => exact (Kd.R_reads' HO_3.out).2.1); rintro e w_11 ⟨v_4, rfl, ho_1, hb⟩; refine ⟨_, rfl, ?_⟩; have HO_4 := a_ (Kd.R_lower (Kd.R_new' ho_1 (Kd.R_lt (by refine rq_ ?_; exact (rf1_ HO_3 BK_3)))) (below_size (bl_3 HB GE_1 GE_2 GE_3))); replace HO_3 := a_ (Kd.R_elder' (by refine rq_ ?_; exact (rf1_ HO_3 BK_3)) (Kd.R_base ho_1) hb); replace BK_1 := bw_1 #[.slice A0_0 l0_0.length c0_0, .bool a0_1, .int .i64 a0_2] BK_1 NB_3 hb; replace BK_2 := bw_1 #[.slice none 0 0, .bool false, .int .i64 0] BK_2 NB_5 hb; replace BK_3 := bw_0 #[.slice Ao_5 t_9.length co_5, .bool t_10, .int .i64 t_11] BK_3 hb; replace HB := hB_ (bl_3 HB GE_1 GE_2 GE_3) hb; (try clear hb); (try clear ho_1); obtain ⟨Ao_6, co_6, eo_6⟩ := Kd.R_slice HO_4.out; subst eo_6; obtain ⟨_, _, _, _, _, _⟩ := c3_ BK_2))
     refine bodyPost_ret (results_ct rfl _ _ gb_2 24 #[.slice Ao_6 t_13.length co_6, .bool t_14, .int .i64 t_15] (0, 0) _ rfl (bp_0 BK_2) Try.underlying24 rfl (by kernel_rfl)) rfl ?_
     exact ⟨_, fz_, by refine rq_ ?_; exact rf1_ HO_4 BK_2, bl_3 HB GE_1 GE_2 GE_3⟩

def gafferref02_name.f (a0 : ByteArray) : Option (Bool) := if a0.toList = ([] : List UInt8) then (some false) else (some (decide ((a0.size : Int) ≤ 32)))
theorem gafferref02_name.calls (a0 : ByteArray) (r : Bool) (w : World) (h : gafferref02_name.f a0 = some r) :
  Calls Try.prog 101 #[.string a0] w fun e w' => e = .returned (.bool r) ∧ Drawn0 w w' := by
 have H := h
 unfold gafferref02_name.f at H
 clear h
 by_cases c_1 : a0.toList = ([] : List UInt8)
 rotate_left
 focus
  rw [if_neg c_1] at H
  obtain ⟨c_2, c_3⟩ := bn_ c_1
  obtain rfl := Option.some.inj H
 rotate_left
 rw [if_pos c_1] at H
 obtain ⟨c_2, c_3⟩ := be_ c_1
 clear c_1
 obtain rfl := Option.some.inj H
 all_goals
  go_enter Try.func101, Try.ntmps101
  go_wp2
  go_ret
  exact ⟨fz_, dr_⟩
mutual
def gafferref02_with.l0 : Nat → List (S71) → Bool → List (S71) → Int → Int → List (S71) → Bool → Int → ByteArray → ByteArray → Int → Option ((List (S71)) × Bool × Int)
 | 0, _, _, _, _, _, _, _, _, _, _, _ => none
 | k + 1, x5, x6, x10, x11, x12, x518000, x518001, x518002, x519000, x519001, x519002 => if x12 < x11 then (if 0 ≤ x12 then (if x12 < (x10.length : Int) then (if x6 = true then (gafferref02_with.j1 k x5 x6 x10 x11 x12 false x518000 x518001 x518002 x519000 x519001 x519002 ((rd_T71 x10 x12).f0) ((rd_T71 x10 x12).f1) ((rd_T71 x10 x12).f2)) else (gafferref02_with.j1 k x5 x6 x10 x11 x12 (!(Op.bytesLess (((rd_T71 x10 x12).f0).toList) x519000.toList)) x518000 x518001 x518002 x519000 x519001 x519002 ((rd_T71 x10 x12).f0) ((rd_T71 x10 x12).f1) ((rd_T71 x10 x12).f2))) else (none)) else (none)) else (if x6 = true then (some (x5, x518001, x518002)) else (if x5.length < 3518437208883 then (some ((x5 ++ [(⟨x519000, x519001, x519002⟩ : S71)]), x518001, x518002)) else (none)))
def gafferref02_with.j1 : Nat → List (S71) → Bool → List (S71) → Int → Int → Bool → List (S71) → Bool → Int → ByteArray → ByteArray → Int → ByteArray → ByteArray → Int → Option ((List (S71)) × Bool × Int)
 | 0, _, _, _, _, _, _, _, _, _, _, _, _, _, _, _ => none
 | k + 1, x5, x6, x10, x11, x12, x24, x518000, x518001, x518002, x519000, x519001, x519002, x525000, x525001, x525002 => if x24 = true then (if x5.length < 3518437208883 then ((some (x5 ++ [(⟨x519000, x519001, x519002⟩ : S71)] : List (S71))).bind fun y525 => (if x525000.toList = x519000.toList then (gafferref02_with.l0 k y525 true x10 x11 (wrap64 (x12 + 1)) x518000 x518001 x518002 x519000 x519001 x519002) else (if y525.length < 3518437208883 then (gafferref02_with.l0 k (y525 ++ [(⟨x525000, x525001, x525002⟩ : S71)]) true x10 x11 (wrap64 (x12 + 1)) x518000 x518001 x518002 x519000 x519001 x519002) else (none)))) else (none)) else (if x525000.toList = x519000.toList then (gafferref02_with.l0 k x5 x6 x10 x11 (wrap64 (x12 + 1)) x518000 x518001 x518002 x519000 x519001 x519002) else (if x5.length < 3518437208883 then (gafferref02_with.l0 k (x5 ++ [(⟨x525000, x525001, x525002⟩ : S71)]) x6 x10 x11 (wrap64 (x12 + 1)) x518000 x518001 x518002 x519000 x519001 x519002) else (none)))
end
def gafferref02_with.f (k : Nat) (l0_0 : List (S71)) (a0_1 : Bool) (a0_2 : Int) (a1_0 : ByteArray) (a1_1 : ByteArray) (a1_2 : Int) : Option ((List (S71)) × Bool × Int) := gafferref02_with.l0 k ([] : List (S71)) false l0_0 (l0_0.length : Int) 0 l0_0 a0_1 a0_2 a1_0 a1_1 a1_2
theorem gafferref02_with.mono_l : ∀ k, (∀ y0 y1 y2 y3 y4 y5 y6 y7 y8 y9 y10, LeO (gafferref02_with.l0 k y0 y1 y2 y3 y4 y5 y6 y7 y8 y9 y10) (gafferref02_with.l0 (k + 1) y0 y1 y2 y3 y4 y5 y6 y7 y8 y9 y10)) ∧ (∀ y0 y1 y2 y3 y4 y5 y6 y7 y8 y9 y10 y11 y12 y13 y14, LeO (gafferref02_with.j1 k y0 y1 y2 y3 y4 y5 y6 y7 y8 y9 y10 y11 y12 y13 y14) (gafferref02_with.j1 (k + 1) y0 y1 y2 y3 y4 y5 y6 y7 y8 y9 y10 y11 y12 y13 y14))
 | 0 => ⟨fun _ _ _ _ _ _ _ _ _ _ _ r h => by simp [gafferref02_with.l0] at h, fun _ _ _ _ _ _ _ _ _ _ _ _ _ _ _ r h => by simp [gafferref02_with.j1] at h⟩
 | k + 1 => by
  obtain ⟨ih0, ih1⟩ := gafferref02_with.mono_l k
  refine ⟨?_, ?_⟩
  ·intro y0 y1 y2 y3 y4 y5 y6 y7 y8 y9 y10
   unfold gafferref02_with.l0
   repeat' with_reducible first | apply ih0 | apply ih1 | apply LeO.refl | apply LeO.none | apply LeO.ite | refine LeO.bind ?_ (fun _ => ?_)
  ·intro y0 y1 y2 y3 y4 y5 y6 y7 y8 y9 y10 y11 y12 y13 y14
   unfold gafferref02_with.j1
   repeat' with_reducible first | apply ih0 | apply ih1 | apply LeO.refl | apply LeO.none | apply LeO.ite | refine LeO.bind ?_ (fun _ => ?_)
theorem gafferref02_with.mono : ∀ a0 a1 a2 a3 a4 a5 k, LeO (gafferref02_with.f k a0 a1 a2 a3 a4 a5) (gafferref02_with.f (k + 1) a0 a1 a2 a3 a4 a5) := by
 intro a0 a1 a2 a3 a4 a5 k
 obtain ⟨ih0, ih1⟩ := gafferref02_with.mono_l k
 unfold gafferref02_with.f
 repeat' with_reducible first | apply ih0 | apply ih1 | apply LeO.refl | apply LeO.none | apply LeO.ite | refine LeO.bind ?_ (fun _ => ?_)
theorem gafferref02_with.calls (k : Nat) (A0_0 : Option Addr) (c0_0 : Nat) (l0_0 : List (S71)) (a0_1 : Bool) (a0_2 : Int) (a1_0 : ByteArray) (a1_1 : ByteArray) (a1_2 : Int) (r1 : List (S71)) (r2 : Bool) (r3 : Int) (w : World) (hr0_0 : Kd.C k71 w A0_0 l0_0.length l0_0) (hc0_0 : l0_0.length ≤ c0_0) (h : gafferref02_with.f k l0_0 a0_1 a0_2 a1_0 a1_1 a1_2 = some (r1, r2, r3)) :
  Calls Try.prog 102 #[.agg #[.slice A0_0 l0_0.length c0_0, .bool a0_1, .int .i64 a0_2], .agg #[.string a1_0, .string a1_1, .int .i64 a1_2]] w fun e w' => ∃ v0_ : Value, e = .returned (.agg #[v0_, .bool r2, .int .i64 r3]) ∧ Kd.R k71 71 w' w.heap.size (fun _ => True) v0_ r1 ∧ Below w.heap.size w w' := by
 have hu_1 := Try.underlying24
 have hu_2 := Try.underlying71
 have HR_1 := a_ hr0_0
 have HC_1 := a_ hc0_0
 clear hr0_0 hc0_0
 have HB := a_ (Below.refl w.heap.size w)
 have H := h
 unfold gafferref02_with.f at H
 clear h
 have H' := a_ H
 clear H
 go_enter Try.func102, Try.ntmps102
 go_wp2_with (first | ((with_reducible refine gd_ 2 ?_); refine bz_ 2 #[.slice A0_0 l0_0.length c0_0, .bool a0_1, .int .i64 a0_2] 24 ?_; intro gb_1 hg w_1 BK_1 hb; have GE_1 := a_ (bs_0 hg HB); replace HB := hB_ (bl_ HB) hb; clear hb hg) | ((with_reducible refine gd_ 3 ?_); refine bz_ 3 #[.string a1_0, .string a1_1, .int .i64 a1_2] 71 ?_; intro gb_2 hg w_2 BK_2 hb; have GE_2 := a_ (bs_1 hg HB GE_1); replace HB := hB_ (bl_1 HB GE_1) hb; have NB_1 := nB_ hg BK_1; have NB_2 := nC_ hg BK_1; replace BK_1 := bB_ BK_1 hb; clear hb hg) | ((with_reducible refine gd_ 4 ?_); refine bz_ 4 #[.slice none 0 0, .bool false, .int .i64 0] 24 ?_; intro gb_3 hg w_3 BK_3 hb; have GE_3 := a_ (bs_2 hg HB GE_1 GE_2); replace HB := hB_ (bl_2 HB GE_1 GE_2) hb; have NB_3 := nB_ hg BK_1; have NB_4 := nC_ hg BK_1; replace BK_1 := bB_ BK_1 hb; have NB_5 := nB_ hg BK_2; have NB_6 := nC_ hg BK_2; replace BK_2 := bB_ BK_2 hb; clear hb hg; have := NB_1.out; have := NB_2.out; have := NB_3.out; have := NB_4.out; obtain ⟨_, _, _, _, _, _⟩ := c3_ BK_1))
 go_loopg [5, 6, 12] k (fun kq v5 v6 v12 w' => ∃ (x5_1 : List (S71)) (x6_1 : Bool) (x12_1 : Int), v6 = .bool x6_1 ∧ v12 = .int .i64 x12_1 ∧ Aside0 (gafferref02_with.l0 kq x5_1 x6_1 l0_0 (l0_0.length : Int) x12_1 l0_0 a0_1 a0_2 a1_0 a1_1 a1_2 = some (r1, r2, r3)) ∧ Aside0 (kq ≤ k) ∧ Aside0 (Kd.R k71 71 w' w.heap.size (fun k_ => k_ ≠ gb_2) v5 x5_1) ∧ Aside0 (w'.heap[gb_1]? = some (.cells #[(.slice A0_0 l0_0.length c0_0), .bool a0_1, .int .i64 a0_2] 24 (0, 0))) ∧ Aside0 (w'.heap[gb_2]? = some (.cells #[.string a1_0, .string a1_1, .int .i64 a1_2] 71 (0, 0))) ∧ Aside0 (w'.heap[gb_3]? = some (.cells #[(.slice none 0 0), .bool false, .int .i64 0] 24 (0, 0))) ∧ Aside0 (Below w.heap.size w w'))
 case atStart => exact ⟨(([] : List (S71))), (false), (0), fz_, fz_, H', ⟨Nat.le_refl _⟩, ⟨nl_⟩, ⟨bk_ BK_1⟩, ⟨bk_ BK_2⟩, ⟨bk_ BK_3⟩, ⟨bl_3 HB GE_1 GE_2 GE_3⟩⟩
 case round =>
  clear H'
  obtain ⟨x_1, x_2, x_3, rfl, rfl, HA, HK_1, HO_1, BK_1, BK_2, BK_3, HB⟩ := hrel
  cases gk with
  | zero => exact absurd HA.out (by simp [gafferref02_with.l0])
  | succ k1 =>
   have H := HA.out
   clear HA
   simp only [gafferref02_with.l0] at H
   by_cases c_1 : x_3 < (l0_0.length : Int)
   rotate_left
   ·rw [if_neg c_1] at H
    have c_2 : decide (x_3 < (l0_0.length : Int)) = false := decide_eq_false c_1
    clear c_1
    by_cases c_3 : x_2 = true
    ·subst c_3
     rw [if_pos rfl] at H
     obtain ⟨rfl, rfl, rfl⟩ := so3_ H
     obtain ⟨Ao_1, co_1, eo_1⟩ := Kd.R_slice HO_1.out
     subst eo_1
     have := NB_1.out
     have := NB_2.out
     have := NB_3.out
     have := NB_4.out
     obtain ⟨_, _, _, _, _, _⟩ := c3_ BK_1
     have := NB_6.out
     have := NB_5.out
     obtain ⟨_, _, _, _, _, _⟩ := c3_ BK_3
     go_wp2
     refine bodyPost_ret (results_cell_row rfl _ _ gb_3 24 #[.slice Ao_1 x_1.length co_1, .bool a0_1, .int .i64 a0_2] (0, 0) _ rfl (bp_1 BK_3 NB_4) Try.underlying24 rfl (by kernel_rfl)) rfl ?_
     exact ⟨_, fz_, by refine rq_ ?_; exact rf2_ HO_1 BK_1 BK_3, bl_3 HB GE_1 GE_2 GE_3⟩
    replace c_3 := Bool.eq_false_iff.mpr c_3
    subst c_3
    rw [if_neg (show ¬ (false = true) by decide)] at H
    replace H := iq_ H
    obtain ⟨c_4, H⟩ := H
    have LMc_1 := a_ c_4
    clear c_4
    obtain ⟨y_1, hy_1⟩ : ∃ y_ : List (S71), y_ = (x_1 ++ [(⟨a1_0, a1_1, a1_2⟩ : S71)]) := ⟨_, rfl⟩
    replace H : (some (y_1, a0_1, a0_2)) = some (r1, r2, r3) := by first | (rw [hy_1]; with_reducible exact H) | (have H_2 := (Option.bind_some _ _).symm.trans H; rw [hy_1]; with_reducible exact H_2) | (have H_2 := (Option.bind_some _ _).symm.trans H; with_reducible exact H_2) | with_reducible exact H | (rw [hy_1]; exact H) | exact H
    have Ny_1 := a_ hy_1
    clear hy_1
    obtain ⟨rfl, rfl, rfl⟩ := so3_ H
    have := NB_2.out
    have := NB_1.out
    have := NB_5.out
    have := NB_6.out
    obtain ⟨_, _, _, _, _, _⟩ := c3_ BK_2
    go_wp2_with (first | ((with_reducible refine gate_builtin (b := .append) (xs := #[.tmp 41, .tmp 43]) rfl ?_); at_builtin; refine Kd.R_append k71 (w0 := w) w.heap.size rfl (.tmp 41) (.tmp 43) 22 71 (.agg #[(.string ⟨#[]⟩), (.string ⟨#[]⟩), (.int .i64 0)]) 40 rfl Try.underlying22 info71 rfl (by decide) (by omega) u5 x_1 (⟨a1_0, a1_1, a1_2⟩ : S71) [.string a1_0, .string a1_1, .int .i64 a1_2] (fun k_ => k_ ≠ gb_2) (fun _ => False) rfl rfl ?aP (fun _ hk => hk.elim) ?aF ?aO ?aB ?aS ?aL ?_; (case aP => exact k71_mkM _ _ _ (⟨a1_0, a1_1, a1_2⟩ : S71)); (case aB => exact (bl_3 HB GE_1 GE_2 GE_3)); (case aF => exact (fun k_ hk => Kd.freshB (g := gb_2) (o := .cells #[.string a1_0, .string a1_1, .int .i64 a1_2] 71 (0, 0)) (bk_ BK_2) k_ hk)); (case aO => exact (by refine rq_ ?_; exact HO_1.out)); (case aS => exact (below_size (bl_3 HB GE_1 GE_2 GE_3))); (case aL => have := LMc_1.out; omega); intro v_1 w_4 ho hb hg hat; rw [← Ny_1.out] at ho; replace BK_1 := a_ (blk_grown (g := gb_1) (o := .cells #[.slice A0_0 l0_0.length c0_0, .bool a0_1, .int .i64 a0_2] 24 (0, 0)) (bk_ BK_1) hg (Kd.R_ne HO_1.out BK_1.out (by decide))); replace BK_2 := a_ (blk_grown (g := gb_2) (o := .cells #[.string a1_0, .string a1_1, .int .i64 a1_2] 71 (0, 0)) (bk_ BK_2) hg (Kd.R_away HO_1.out (fun _ hk => hk))); replace BK_3 := a_ (blk_grown (g := gb_3) (o := .cells #[.slice none 0 0, .bool false, .int .i64 0] 24 (0, 0)) (bk_ BK_3) hg (Kd.R_ne HO_1.out BK_3.out (by decide))); replace HB := a_ (hb); have HO_2 := a_ (ho); clear HO_1; clear ho hb hg hat; obtain ⟨Ao_2, co_2, eo_2⟩ := Kd.R_slice HO_2.out; subst eo_2; have := NB_3.out; have := NB_4.out; obtain ⟨_, _, _, _, _, _⟩ := c3_ BK_1; obtain ⟨_, _, _, _, _, _⟩ := c3_ BK_3))
    refine bodyPost_ret (results_cell_row rfl _ _ gb_3 24 #[.slice Ao_2 y_1.length co_2, .bool a0_1, .int .i64 a0_2] (0, 0) _ rfl (bp_1 BK_3 NB_4) Try.underlying24 rfl (by kernel_rfl)) rfl ?_
    exact ⟨_, fz_, by refine rq_ ?_; exact rf2_ HO_2 BK_1 BK_3, bl_3 HB GE_1 GE_2 GE_3⟩
   rw [if_pos c_1] at H
   have c_2 : decide (x_3 < (l0_0.length : Int)) = true := decide_eq_true c_1
   clear c_1
   replace H := ip_ H
   obtain ⟨-, c_6, H⟩ := H
   replace H := ip_ H
   obtain ⟨-, c_8, H⟩ := H
   have HC_2 := a_ H
   clear H
   have p_1 : 0 ≤ (x_3 : Int) := od_
   have q_1 : x_3 < (l0_0.length : Int) := od_
   obtain ⟨ad_1, e_1, hx_1, hx_2, hx_3⟩ := at_T71 HR_1.out x_3 p_1 q_1
   cases e_1
   replace hx_1 := hc_ HB hx_1
   replace hx_2 := hc_ HB hx_2
   replace hx_3 := hc_ HB hx_3
   replace p_1 := eq_true p_1
   replace q_1 := eq_true q_1
   go_upto_region 6 with (first | ((with_reducible refine gd_ 8 ?_); refine bz_ 8 #[.string (⟨#[]⟩ : ByteArray), .string (⟨#[]⟩ : ByteArray), .int .i64 0] 71 ?_; intro gb_4 hg w_5 BK_4 hb; replace HO_1 := a_ (Kd.R_below (Kd.R_elderB (by refine rq_ ?_; exact HO_1.out) gb_4 (Nat.le_of_eq hg.symm)) hb); have GE_4 := a_ (bs_3 hg HB GE_1 GE_2 GE_3); replace HB := hB_ (bl_3 HB GE_1 GE_2 GE_3) hb; have NB_7 := nB_ hg BK_1; have NB_8 := nC_ hg BK_1; replace BK_1 := bB_ BK_1 hb; have NB_9 := nB_ hg BK_2; have NB_10 := nC_ hg BK_2; replace BK_2 := bB_ BK_2 hb; have NB_11 := nB_ hg BK_3; have NB_12 := nC_ hg BK_3; replace BK_3 := bB_ BK_3 hb; clear hb hg; have := NB_8.out; have := NB_7.out; have := NB_10.out; have := NB_9.out; have := NB_12.out; have := NB_11.out; obtain ⟨_, _, _, _, _, _⟩ := c3_ BK_4))
   (try simp only [Act.put, List.setIfInBounds_toArray, List.set_cons_zero, List.set_cons_succ])
   go_cut [24] (fun v24 wc => ∃ (kq : Nat) (x24_11 : Bool), v24 = .bool x24_11 ∧ Aside0 (gafferref02_with.j1 kq x_1 x_2 l0_0 (l0_0.length : Int) x_3 x24_11 l0_0 a0_1 a0_2 a1_0 a1_1 a1_2 ((rd_T71 l0_0 x_3).f0) ((rd_T71 l0_0 x_3).f1) ((rd_T71 l0_0 x_3).f2) = some (r1, r2, r3)) ∧ Aside0 (kq ≤ k1) ∧ Aside0 (Kd.R k71 71 wc w.heap.size (fun k_ => k_ ≠ gb_2 ∧ k_ ≠ gb_4) u5 x_1) ∧ Aside0 (wc.heap[gb_1]? = some (.cells #[(.slice (some ad_1) l0_0.length c0_0), .bool a0_1, .int .i64 a0_2] 24 (0, 0))) ∧ Aside0 (wc.heap[gb_2]? = some (.cells #[.string a1_0, .string a1_1, .int .i64 a1_2] 71 (0, 0))) ∧ Aside0 (wc.heap[gb_3]? = some (.cells #[(.slice none 0 0), .bool false, .int .i64 0] 24 (0, 0))) ∧ Aside0 (wc.heap[gb_4]? = some (.cells #[.string ((rd_T71 l0_0 x_3).f0), .string ((rd_T71 l0_0 x_3).f1), .int .i64 ((rd_T71 l0_0 x_3).f2)] 71 (0, 0))) ∧ Aside0 (Below w.heap.size w wc))
   case first =>
    have H := HC_2.out
    clear HC_2
    by_cases c_9 : x_2 = true
    ·subst c_9
     rw [if_pos rfl] at H
     have H' := a_ H
     clear H
     go_wp2
     try go_wp2
     go_meet
     case rel => exact ⟨_, (false), fz_, H', ⟨by have := HK_1.out; first | omega | exact Nat.le_refl _⟩, ⟨by refine rq_ ?_; exact Kd.R_mono (Kd.R_far (p := ⟨gb_4, 2, none⟩) (Kd.R_far (p := ⟨gb_4, 1, none⟩) (Kd.R_far (p := ⟨gb_4, 0, none⟩) (Kd.R_mono HO_1.out (fun k_ hk => (⟨hk, hk.2⟩ : _ ∧ k_ ≠ gb_4))) (fun _ hk => hk.2) (.string ((rd_T71 l0_0 x_3).f0))) (fun _ hk => hk.2) (.string ((rd_T71 l0_0 x_3).f1))) (fun _ hk => hk.2) (.int .i64 ((rd_T71 l0_0 x_3).f2))) (fun _ hk => ⟨hk.1.1, hk.1.2⟩)⟩, ⟨by refine bq_ ?_; refine blk_far ?_ NB_7.out _; refine bq_ ?_; refine blk_far ?_ NB_7.out _; refine bq_ ?_; refine blk_far ?_ NB_7.out _; refine bq_ ?_; exact BK_1.out⟩, ⟨by refine bq_ ?_; refine blk_far ?_ NB_9.out _; refine bq_ ?_; refine blk_far ?_ NB_9.out _; refine bq_ ?_; refine blk_far ?_ NB_9.out _; refine bq_ ?_; exact BK_2.out⟩, ⟨by refine bq_ ?_; refine blk_far ?_ NB_11.out _; refine bq_ ?_; refine blk_far ?_ NB_11.out _; refine bq_ ?_; refine blk_far ?_ NB_11.out _; refine bq_ ?_; exact BK_3.out⟩, ⟨by refine bq_ ?_; refine blk_put (cs := #[.string ((rd_T71 l0_0 x_3).f0), .string ((rd_T71 l0_0 x_3).f1), .int .i64 0]) ?_ 2 _ rfl; refine bq_ ?_; refine blk_put (cs := #[.string ((rd_T71 l0_0 x_3).f0), .string (⟨#[]⟩ : ByteArray), .int .i64 0]) ?_ 1 _ rfl; refine bq_ ?_; refine blk_put (cs := #[.string (⟨#[]⟩ : ByteArray), .string (⟨#[]⟩ : ByteArray), .int .i64 0]) ?_ 0 _ rfl; refine bq_ ?_; exact BK_4.out⟩, ⟨bl_4 HB GE_1 GE_2 GE_3 GE_4⟩⟩
    replace c_9 := Bool.eq_false_iff.mpr c_9
    subst c_9
    rw [if_neg (show ¬ (false = true) by decide)] at H
    have H' := a_ H
    clear H
    have := NB_8.out
    have := NB_7.out
    have := NB_10.out
    have := NB_9.out
    have := NB_12.out
    have := NB_11.out
    obtain ⟨_, _, _, _, _, _⟩ := c3_ BK_4
    have := NB_2.out
    have := NB_1.out
    have := NB_5.out
    have := NB_6.out
    obtain ⟨_, _, _, _, _, _⟩ := c3_ BK_2
    go_wp2
    try go_wp2
    go_meet
    case rel => exact ⟨_, (!(Op.bytesLess (((rd_T71 l0_0 x_3).f0).toList) a1_0.toList)), fz_, H', ⟨by have := HK_1.out; first | omega | exact Nat.le_refl _⟩, ⟨by refine rq_ ?_; exact Kd.R_mono (Kd.R_far (p := ⟨gb_4, 2, none⟩) (Kd.R_far (p := ⟨gb_4, 1, none⟩) (Kd.R_far (p := ⟨gb_4, 0, none⟩) (Kd.R_mono HO_1.out (fun k_ hk => (⟨hk, hk.2⟩ : _ ∧ k_ ≠ gb_4))) (fun _ hk => hk.2) (.string ((rd_T71 l0_0 x_3).f0))) (fun _ hk => hk.2) (.string ((rd_T71 l0_0 x_3).f1))) (fun _ hk => hk.2) (.int .i64 ((rd_T71 l0_0 x_3).f2))) (fun _ hk => ⟨hk.1.1, hk.1.2⟩)⟩, ⟨by refine bq_ ?_; refine blk_far ?_ NB_7.out _; refine bq_ ?_; refine blk_far ?_ NB_7.out _; refine bq_ ?_; refine blk_far ?_ NB_7.out _; refine bq_ ?_; exact BK_1.out⟩, ⟨by refine bq_ ?_; refine blk_far ?_ NB_9.out _; refine bq_ ?_; refine blk_far ?_ NB_9.out _; refine bq_ ?_; refine blk_far ?_ NB_9.out _; refine bq_ ?_; exact BK_2.out⟩, ⟨by refine bq_ ?_; refine blk_far ?_ NB_11.out _; refine bq_ ?_; refine blk_far ?_ NB_11.out _; refine bq_ ?_; refine blk_far ?_ NB_11.out _; refine bq_ ?_; exact BK_3.out⟩, ⟨by refine bq_ ?_; refine blk_put (cs := #[.string ((rd_T71 l0_0 x_3).f0), .string ((rd_T71 l0_0 x_3).f1), .int .i64 0]) ?_ 2 _ rfl; refine bq_ ?_; refine blk_put (cs := #[.string ((rd_T71 l0_0 x_3).f0), .string (⟨#[]⟩ : ByteArray), .int .i64 0]) ?_ 1 _ rfl; refine bq_ ?_; refine blk_put (cs := #[.string (⟨#[]⟩ : ByteArray), .string (⟨#[]⟩ : ByteArray), .int .i64 0]) ?_ 0 _ rfl; refine bq_ ?_; exact BK_4.out⟩, ⟨bl_4 HB GE_1 GE_2 GE_3 GE_4⟩⟩
   case rest =>
    clear HC_2
    try clear c_1
    try clear c_2
    try clear c_6
    try clear c_8
    try clear hx_1
    try clear hx_2
    try clear hx_3
    try clear p_1
    try clear q_1
    obtain ⟨kq, x_4, rfl, HA, HJ_1, HO_1, BK_1, BK_2, BK_3, BK_4, HB⟩ := hcut
    cases kq with
    | zero => exact absurd HA.out (by simp [gafferref02_with.j1])
    | succ kj11 =>
     have H := HA.out
     clear HA
     simp only [gafferref02_with.j1] at H
     by_cases c_10 : x_4 = true
     rotate_left
     ·replace c_10 := Bool.eq_false_iff.mpr c_10
      subst c_10
      rw [if_neg (show ¬ (false = true) by decide)] at H
      by_cases c_11 : ((rd_T71 l0_0 x_3).f0).toList = a1_0.toList
      ·rw [if_pos c_11] at H
       obtain ⟨c_12, c_13⟩ := be_ c_11
       clear c_11
       have H' := a_ H
       clear H
       have := NB_8.out
       have := NB_7.out
       have := NB_10.out
       have := NB_9.out
       have := NB_12.out
       have := NB_11.out
       obtain ⟨_, _, _, _, _, _⟩ := c3_ BK_4
       have := NB_2.out
       have := NB_1.out
       have := NB_5.out
       have := NB_6.out
       obtain ⟨_, _, _, _, _, _⟩ := c3_ BK_2
       go_wp2
       go_roundg kj11
       case measure => have := HK_1.out; have := HJ_1.out; omega
       case rel => exact ⟨(x_1), (x_2), (wrap64 (x_3 + 1)), fz_, fz_, H', ⟨by have := HK_1.out; have := HJ_1.out; omega⟩, ⟨by refine rq_ ?_; exact Kd.R_mono HO_1.out (fun _ hk => hk.1)⟩, ⟨bk_ BK_1⟩, ⟨bk_ BK_2⟩, ⟨bk_ BK_3⟩, ⟨bl_4 HB GE_1 GE_2 GE_3 GE_4⟩⟩
      rw [if_neg c_11] at H
      obtain ⟨c_12, c_13⟩ := bn_ c_11
      replace H := iq_ H
      obtain ⟨c_14, H⟩ := H
      have LMc_2 := a_ c_14
      clear c_14
      obtain ⟨y_2, hy_2⟩ : ∃ y_ : List (S71), y_ = (x_1 ++ [(⟨((rd_T71 l0_0 x_3).f0), ((rd_T71 l0_0 x_3).f1), ((rd_T71 l0_0 x_3).f2)⟩ : S71)]) := ⟨_, rfl⟩
      replace H : (gafferref02_with.l0 kj11 y_2 x_2 l0_0 (l0_0.length : Int) (wrap64 (x_3 + 1)) l0_0 a0_1 a0_2 a1_0 a1_1 a1_2) = some (r1, r2, r3) := by first | (rw [hy_2]; with_reducible exact H) | (have H_2 := (Option.bind_some _ _).symm.trans H; rw [hy_2]; with_reducible exact H_2) | (have H_2 := (Option.bind_some _ _).symm.trans H; with_reducible exact H_2) | with_reducible exact H | (rw [hy_2]; exact H) | exact H
      have Ny_2 := a_ hy_2
      clear hy_2
      have H' := a_ H
      clear H
      have := NB_8.out
      have := NB_7.out
      have := NB_10.out
      have := NB_9.out
      have := NB_12.out
      have := NB_11.out
      obtain ⟨_, _, _, _, _, _⟩ := c3_ BK_4
      have := NB_2.out
      have := NB_1.out
      have := NB_5.out
      have := NB_6.out
      obtain ⟨_, _, _, _, _, _⟩ := c3_ BK_2
      go_wp2_with (first | ((with_reducible refine gate_builtin (b := .append) (xs := #[.tmp 34, .tmp 36]) rfl ?_); at_builtin; refine Kd.R_append k71 (w0 := w) w.heap.size rfl (.tmp 34) (.tmp 36) 22 71 (.agg #[(.string ⟨#[]⟩), (.string ⟨#[]⟩), (.int .i64 0)]) 40 rfl Try.underlying22 info71 rfl (by decide) (by omega) u5 x_1 (⟨((rd_T71 l0_0 x_3).f0), ((rd_T71 l0_0 x_3).f1), ((rd_T71 l0_0 x_3).f2)⟩ : S71) [.string ((rd_T71 l0_0 x_3).f0), .string ((rd_T71 l0_0 x_3).f1), .int .i64 ((rd_T71 l0_0 x_3).f2)] (fun k_ => k_ ≠ gb_2 ∧ k_ ≠ gb_4) (fun _ => False) rfl rfl ?aP (fun _ hk => hk.elim) ?aF ?aO ?aB ?aS ?aL ?_; (case aP => exact k71_mkM _ _ _ (⟨((rd_T71 l0_0 x_3).f0), ((rd_T71 l0_0 x_3).f1), ((rd_T71 l0_0 x_3).f2)⟩ : S71)); (case aB => exact (bl_4 HB GE_1 GE_2 GE_3 GE_4)); (case aF => exact (fun k_ hk => ⟨Kd.freshB (g := gb_2) (o := .cells #[.string a1_0, .string a1_1, .int .i64 a1_2] 71 (0, 0)) (bk_ BK_2) k_ hk, Kd.freshB (g := gb_4) (o := .cells #[.string ((rd_T71 l0_0 x_3).f0), .string ((rd_T71 l0_0 x_3).f1), .int .i64 ((rd_T71 l0_0 x_3).f2)] 71 (0, 0)) (bk_ BK_4) k_ hk⟩)); (case aO => exact (by refine rq_ ?_; exact HO_1.out)); (case aS => exact (below_size (bl_4 HB GE_1 GE_2 GE_3 GE_4))); (case aL => have := LMc_2.out; omega); intro v_2 w_6 ho hb hg hat; rw [← Ny_2.out] at ho; replace BK_1 := a_ (blk_grown (g := gb_1) (o := .cells #[.slice (some ad_1) l0_0.length c0_0, .bool a0_1, .int .i64 a0_2] 24 (0, 0)) (bk_ BK_1) hg (Kd.R_ne HO_1.out BK_1.out (by decide))); replace BK_2 := a_ (blk_grown (g := gb_2) (o := .cells #[.string a1_0, .string a1_1, .int .i64 a1_2] 71 (0, 0)) (bk_ BK_2) hg (Kd.R_away HO_1.out (fun _ hk => hk.1))); replace BK_3 := a_ (blk_grown (g := gb_3) (o := .cells #[.slice none 0 0, .bool false, .int .i64 0] 24 (0, 0)) (bk_ BK_3) hg (Kd.R_ne HO_1.out BK_3.out (by decide))); replace BK_4 := a_ (blk_grown (g := gb_4) (o := .cells #[.string ((rd_T71 l0_0 x_3).f0), .string ((rd_T71 l0_0 x_3).f1), .int .i64 ((rd_T71 l0_0 x_3).f2)] 71 (0, 0)) (bk_ BK_4) hg (Kd.R_away HO_1.out (fun _ hk => hk.2))); replace HB := a_ (hb); have HO_3 := a_ (ho); clear HO_1; clear ho hb hg hat))
      go_roundg kj11
      case measure => have := HK_1.out; have := HJ_1.out; omega
      case rel => exact ⟨(y_2), (x_2), (wrap64 (x_3 + 1)), fz_, fz_, H', ⟨by have := HK_1.out; have := HJ_1.out; omega⟩, ⟨by refine rq_ ?_; exact Kd.R_mono HO_3.out (fun _ hk => hk.1)⟩, ⟨bk_ BK_1⟩, ⟨bk_ BK_2⟩, ⟨bk_ BK_3⟩, ⟨bl_4 HB GE_1 GE_2 GE_3 GE_4⟩⟩
     subst c_10
     rw [if_pos rfl] at H
     replace H := iq_ H
     obtain ⟨c_15, H⟩ := H
     have LMc_3 := a_ c_15
     clear c_15
     obtain ⟨y_3, hy_3⟩ : ∃ y_ : List (S71), y_ = (x_1 ++ [(⟨a1_0, a1_1, a1_2⟩ : S71)]) := ⟨_, rfl⟩
     replace H : (if ((rd_T71 l0_0 x_3).f0).toList = a1_0.toList then (gafferref02_with.l0 kj11 y_3 true l0_0 (l0_0.length : Int) (wrap64 (x_3 + 1)) l0_0 a0_1 a0_2 a1_0 a1_1 a1_2) else (if y_3.length < 3518437208883 then (gafferref02_with.l0 kj11 (y_3 ++ [(⟨((rd_T71 l0_0 x_3).f0), ((rd_T71 l0_0 x_3).f1), ((rd_T71 l0_0 x_3).f2)⟩ : S71)]) true l0_0 (l0_0.length : Int) (wrap64 (x_3 + 1)) l0_0 a0_1 a0_2 a1_0 a1_1 a1_2) else (none))) = some (r1, r2, r3) := by first | (rw [hy_3]; with_reducible exact H) | (have H_2 := (Option.bind_some _ _).symm.trans H; rw [hy_3]; with_reducible exact H_2) | (have H_2 := (Option.bind_some _ _).symm.trans H; with_reducible exact H_2) | with_reducible exact H | (rw [hy_3]; exact H) | exact H
     have Ny_3 := a_ hy_3
     clear hy_3
     by_cases c_16 : ((rd_T71 l0_0 x_3).f0).toList = a1_0.toList
     ·rw [if_pos c_16] at H
      obtain ⟨c_17, c_18⟩ := be_ c_16
      clear c_16
      have H' := a_ H
      clear H
      have := NB_2.out
      have := NB_1.out
      have := NB_5.out
      have := NB_6.out
      have := NB_9.out
      have := NB_10.out
      obtain ⟨_, _, _, _, _, _⟩ := c3_ BK_2
      go_wp2_with (first | ((with_reducible refine gate_builtin (b := .append) (xs := #[.tmp 25, .tmp 27]) rfl ?_); at_builtin; refine Kd.R_append k71 (w0 := w) w.heap.size rfl (.tmp 25) (.tmp 27) 22 71 (.agg #[(.string ⟨#[]⟩), (.string ⟨#[]⟩), (.int .i64 0)]) 40 rfl Try.underlying22 info71 rfl (by decide) (by omega) u5 x_1 (⟨a1_0, a1_1, a1_2⟩ : S71) [.string a1_0, .string a1_1, .int .i64 a1_2] (fun k_ => k_ ≠ gb_2 ∧ k_ ≠ gb_4) (fun _ => False) rfl rfl ?aP (fun _ hk => hk.elim) ?aF ?aO ?aB ?aS ?aL ?_; (case aP => exact k71_mkM _ _ _ (⟨a1_0, a1_1, a1_2⟩ : S71)); (case aB => exact (bl_4 HB GE_1 GE_2 GE_3 GE_4)); (case aF => exact (fun k_ hk => ⟨Kd.freshB (g := gb_2) (o := .cells #[.string a1_0, .string a1_1, .int .i64 a1_2] 71 (0, 0)) (bk_ BK_2) k_ hk, Kd.freshB (g := gb_4) (o := .cells #[.string ((rd_T71 l0_0 x_3).f0), .string ((rd_T71 l0_0 x_3).f1), .int .i64 ((rd_T71 l0_0 x_3).f2)] 71 (0, 0)) (bk_ BK_4) k_ hk⟩)); (case aO => exact (by refine rq_ ?_; exact HO_1.out)); (case aS => exact (below_size (bl_4 HB GE_1 GE_2 GE_3 GE_4))); (case aL => have := LMc_3.out; omega); intro v_3 w_7 ho hb hg hat; rw [← Ny_3.out] at ho; replace BK_1 := a_ (blk_grown (g := gb_1) (o := .cells #[.slice (some ad_1) l0_0.length c0_0, .bool a0_1, .int .i64 a0_2] 24 (0, 0)) (bk_ BK_1) hg (Kd.R_ne HO_1.out BK_1.out (by decide))); replace BK_2 := a_ (blk_grown (g := gb_2) (o := .cells #[.string a1_0, .string a1_1, .int .i64 a1_2] 71 (0, 0)) (bk_ BK_2) hg (Kd.R_away HO_1.out (fun _ hk => hk.1))); replace BK_3 := a_ (blk_grown (g := gb_3) (o := .cells #[.slice none 0 0, .bool false, .int .i64 0] 24 (0, 0)) (bk_ BK_3) hg (Kd.R_ne HO_1.out BK_3.out (by decide))); replace BK_4 := a_ (blk_grown (g := gb_4) (o := .cells #[.string ((rd_T71 l0_0 x_3).f0), .string ((rd_T71 l0_0 x_3).f1), .int .i64 ((rd_T71 l0_0 x_3).f2)] 71 (0, 0)) (bk_ BK_4) hg (Kd.R_away HO_1.out (fun _ hk => hk.2))); replace HB := a_ (hb); have HO_4 := a_ (ho); clear HO_1; clear ho hb hg hat; have := NB_8.out; have := NB_7.out; have := NB_12.out; have := NB_11.out; obtain ⟨_, _, _, _, _, _⟩ := c3_ BK_4; obtain ⟨_, _, _, _, _, _⟩ := c3_ BK_2))
      go_roundg kj11
      case measure => have := HK_1.out; have := HJ_1.out; omega
      case rel => exact ⟨(y_3), (true), (wrap64 (x_3 + 1)), fz_, fz_, H', ⟨by have := HK_1.out; have := HJ_1.out; omega⟩, ⟨by refine rq_ ?_; exact Kd.R_mono HO_4.out (fun _ hk => hk.1)⟩, ⟨bk_ BK_1⟩, ⟨bk_ BK_2⟩, ⟨bk_ BK_3⟩, ⟨bl_4 HB GE_1 GE_2 GE_3 GE_4⟩⟩
     rw [if_neg c_16] at H
     obtain ⟨c_17, c_18⟩ := bn_ c_16
     replace H := iq_ H
     obtain ⟨c_19, H⟩ := H
     have LMc_4 := a_ c_19
     clear c_19
     obtain ⟨y_4, hy_4⟩ : ∃ y_ : List (S71), y_ = (y_3 ++ [(⟨((rd_T71 l0_0 x_3).f0), ((rd_T71 l0_0 x_3).f1), ((rd_T71 l0_0 x_3).f2)⟩ : S71)]) := ⟨_, rfl⟩
     replace H : (gafferref02_with.l0 kj11 y_4 true l0_0 (l0_0.length : Int) (wrap64 (x_3 + 1)) l0_0 a0_1 a0_2 a1_0 a1_1 a1_2) = some (r1, r2, r3) := by first | (rw [hy_4]; with_reducible exact H) | (have H_2 := (Option.bind_some _ _).symm.trans H; rw [hy_4]; with_reducible exact H_2) | (have H_2 := (Option.bind_some _ _).symm.trans H; with_reducible exact H_2) | with_reducible exact H | (rw [hy_4]; exact H) | exact H
     have Ny_4 := a_ hy_4
     clear hy_4
     have H' := a_ H
     clear H
     have := NB_2.out
     have := NB_1.out
     have := NB_5.out
     have := NB_6.out
     have := NB_9.out
     have := NB_10.out
     obtain ⟨_, _, _, _, _, _⟩ := c3_ BK_2
     go_wp2_with (first | ((with_reducible refine gate_builtin (b := .append) (xs := #[.tmp 25, .tmp 27]) rfl ?_); at_builtin; refine Kd.R_append k71 (w0 := w) w.heap.size rfl (.tmp 25) (.tmp 27) 22 71 (.agg #[(.string ⟨#[]⟩), (.string ⟨#[]⟩), (.int .i64 0)]) 40 rfl Try.underlying22 info71 rfl (by decide) (by omega) u5 x_1 (⟨a1_0, a1_1, a1_2⟩ : S71) [.string a1_0, .string a1_1, .int .i64 a1_2] (fun k_ => k_ ≠ gb_2 ∧ k_ ≠ gb_4) (fun _ => False) rfl rfl ?aP (fun _ hk => hk.elim) ?aF ?aO ?aB ?aS ?aL ?_; (case aP => exact k71_mkM _ _ _ (⟨a1_0, a1_1, a1_2⟩ : S71)); (case aB => exact (bl_4 HB GE_1 GE_2 GE_3 GE_4)); (case aF => exact (fun k_ hk => ⟨Kd.freshB (g := gb_2) (o := .cells #[.string a1_0, .string a1_1, .int .i64 a1_2] 71 (0, 0)) (bk_ BK_2) k_ hk, Kd.freshB (g := gb_4) (o := .cells #[.string ((rd_T71 l0_0 x_3).f0), .string ((rd_T71 l0_0 x_3).f1), .int .i64 ((rd_T71 l0_0 x_3).f2)] 71 (0, 0)) (bk_ BK_4) k_ hk⟩)); (case aO => exact (by refine rq_ ?_; exact HO_1.out)); (case aS => exact (below_size (bl_4 HB GE_1 GE_2 GE_3 GE_4))); (case aL => have := LMc_3.out; omega); intro v_3 w_8 ho hb hg hat; rw [← Ny_3.out] at ho; replace BK_1 := a_ (blk_grown (g := gb_1) (o := .cells #[.slice (some ad_1) l0_0.length c0_0, .bool a0_1, .int .i64 a0_2] 24 (0, 0)) (bk_ BK_1) hg (Kd.R_ne HO_1.out BK_1.out (by decide))); replace BK_2 := a_ (blk_grown (g := gb_2) (o := .cells #[.string a1_0, .string a1_1, .int .i64 a1_2] 71 (0, 0)) (bk_ BK_2) hg (Kd.R_away HO_1.out (fun _ hk => hk.1))); replace BK_3 := a_ (blk_grown (g := gb_3) (o := .cells #[.slice none 0 0, .bool false, .int .i64 0] 24 (0, 0)) (bk_ BK_3) hg (Kd.R_ne HO_1.out BK_3.out (by decide))); replace BK_4 := a_ (blk_grown (g := gb_4) (o := .cells #[.string ((rd_T71 l0_0 x_3).f0), .string ((rd_T71 l0_0 x_3).f1), .int .i64 ((rd_T71 l0_0 x_3).f2)] 71 (0, 0)) (bk_ BK_4) hg (Kd.R_away HO_1.out (fun _ hk => hk.2))); replace HB := a_ (hb); have HO_4 := a_ (ho); clear HO_1; clear ho hb hg hat; have := NB_8.out; have := NB_7.out; have := NB_12.out; have := NB_11.out; obtain ⟨_, _, _, _, _, _⟩ := c3_ BK_4; obtain ⟨_, _, _, _, _, _⟩ := c3_ BK_2) | ((with_reducible refine gate_builtin (b := .append) (xs := #[.tmp 34, .tmp 36]) rfl ?_); at_builtin; refine Kd.R_append k71 (w0 := w) w.heap.size rfl (.tmp 34) (.tmp 36) 22 71 (.agg #[(.string ⟨#[]⟩), (.string ⟨#[]⟩), (.int .i64 0)]) 40 rfl Try.underlying22 info71 rfl (by decide) (by omega) v_3 y_3 (⟨((rd_T71 l0_0 x_3).f0), ((rd_T71 l0_0 x_3).f1), ((rd_T71 l0_0 x_3).f2)⟩ : S71) [.string ((rd_T71 l0_0 x_3).f0), .string ((rd_T71 l0_0 x_3).f1), .int .i64 ((rd_T71 l0_0 x_3).f2)] (fun k_ => k_ ≠ gb_2 ∧ k_ ≠ gb_4) (fun _ => False) rfl rfl ?aP (fun _ hk => hk.elim) ?aF ?aO ?aB ?aS ?aL ?_; (case aP => exact k71_mkM _ _ _ (⟨((rd_T71 l0_0 x_3).f0), ((rd_T71 l0_0 x_3).f1), ((rd_T71 l0_0 x_3).f2)⟩ : S71)); (case aB => exact (bl_4 HB GE_1 GE_2 GE_3 GE_4)); (case aF => exact (fun k_ hk => ⟨Kd.freshB (g := gb_2) (o := .cells #[.string a1_0, .string a1_1, .int .i64 a1_2] 71 (0, 0)) (bk_ BK_2) k_ hk, Kd.freshB (g := gb_4) (o := .cells #[.string ((rd_T71 l0_0 x_3).f0), .string ((rd_T71 l0_0 x_3).f1), .int .i64 ((rd_T71 l0_0 x_3).f2)] 71 (0, 0)) (bk_ BK_4) k_ hk⟩)); (case aO => exact (by refine rq_ ?_; exact HO_4.out)); (case aS => exact (below_size (bl_4 HB GE_1 GE_2 GE_3 GE_4))); (case aL => have := LMc_4.out; omega); intro v_4 w_9 ho hb hg hat; rw [← Ny_4.out] at ho; replace BK_1 := a_ (blk_grown (g := gb_1) (o := .cells #[.slice (some ad_1) l0_0.length c0_0, .bool a0_1, .int .i64 a0_2] 24 (0, 0)) (bk_ BK_1) hg (Kd.R_ne HO_4.out BK_1.out (by decide))); replace BK_2 := a_ (blk_grown (g := gb_2) (o := .cells #[.string a1_0, .string a1_1, .int .i64 a1_2] 71 (0, 0)) (bk_ BK_2) hg (Kd.R_away HO_4.out (fun _ hk => hk.1))); replace BK_3 := a_ (blk_grown (g := gb_3) (o := .cells #[.slice none 0 0, .bool false, .int .i64 0] 24 (0, 0)) (bk_ BK_3) hg (Kd.R_ne HO_4.out BK_3.out (by decide))); replace BK_4 := a_ (blk_grown (g := gb_4) (o := .cells #[.string ((rd_T71 l0_0 x_3).f0), .string ((rd_T71 l0_0 x_3).f1), .int .i64 ((rd_T71 l0_0 x_3).f2)] 71 (0, 0)) (bk_ BK_4) hg (Kd.R_away HO_4.out (fun _ hk => hk.2))); replace HB := a_ (hb); have HO_5 := a_ (ho); clear HO_4; clear ho hb hg hat))
     go_roundg kj11
     case measure => have := HK_1.out; have := HJ_1.out; omega
     case rel => exact ⟨(y_4), (true), (wrap64 (x_3 + 1)), fz_, fz_, H', ⟨by have := HK_1.out; have := HJ_1.out; omega⟩, ⟨by refine rq_ ?_; exact Kd.R_mono HO_5.out (fun _ hk => hk.1)⟩, ⟨bk_ BK_1⟩, ⟨bk_ BK_2⟩, ⟨bk_ BK_3⟩, ⟨bl_4 HB GE_1 GE_2 GE_3 GE_4⟩⟩
mutual
def gafferref02_Add.j0 : Nat → ByteArray → ByteArray → Int → Int → Bool → List (S71) → Bool → Int → Option ((List (S71)) × Bool × Int × Int)
 | 0, _, _, _, _, _, _, _, _ => none
 | k + 1, x1, x2, x8, x9, x24, x535000, x535001, x535002 => if x24 = true then (gafferref02_Add.j1 k x1 x2 5 x9 x535000 x535001 x535002) else (gafferref02_Add.j1 k x1 x2 x8 x9 x535000 x535001 x535002)
def gafferref02_Add.j1 : Nat → ByteArray → ByteArray → Int → Int → List (S71) → Bool → Int → Option ((List (S71)) × Bool × Int × Int)
 | 0, _, _, _, _, _, _, _ => none
 | k + 1, x1, x2, x8, x9, x535000, x535001, x535002 => if x8 = 0 then (if x9 < 0 then (gafferref02_Add.j2 k x1 x2 x8 x9 (decide ((x535000.length : Int) ≥ 4096)) x535000 x535001 x535002) else (gafferref02_Add.j2 k x1 x2 x8 x9 false x535000 x535001 x535002)) else (gafferref02_Add.j2 k x1 x2 x8 x9 false x535000 x535001 x535002)
def gafferref02_Add.j2 : Nat → ByteArray → ByteArray → Int → Int → Bool → List (S71) → Bool → Int → Option ((List (S71)) × Bool × Int × Int)
 | 0, _, _, _, _, _, _, _, _ => none
 | k + 1, x1, x2, x8, x9, x36, x535000, x535001, x535002 => if x36 = true then (gafferref02_Add.j3 k x1 x2 11 x9 x535000 x535001 x535002) else (gafferref02_Add.j3 k x1 x2 x8 x9 x535000 x535001 x535002)
def gafferref02_Add.j3 : Nat → ByteArray → ByteArray → Int → Int → List (S71) → Bool → Int → Option ((List (S71)) × Bool × Int × Int)
 | 0, _, _, _, _, _, _, _ => none
 | k + 1, x1, x2, x8, x9, x535000, x535001, x535002 => if x8 = 0 then (if x9 ≥ 0 then (if 0 ≤ x9 then (if x9 < (x535000.length : Int) then (gafferref02_Add.j4 k x2 x535000 x535001 x535002 ((rd_T71 x535000 x9).f0) ((rd_T71 x535000 x9).f1) ((rd_T71 x535000 x9).f2)) else (none)) else (none)) else (gafferref02_Add.j4 k x2 x535000 x535001 x535002 x1 (⟨#[]⟩ : ByteArray) 0)) else ((gafferref02_bad.f x535000 x535001 x535002 x8).bind fun bt539 => (some (bt539.1, bt539.2.1, bt539.2.2.1, bt539.2.2.2)))
def gafferref02_Add.j4 : Nat → ByteArray → List (S71) → Bool → Int → ByteArray → ByteArray → Int → Option ((List (S71)) × Bool × Int × Int)
 | 0, _, _, _, _, _, _, _ => none
 | k + 1, x2, x535000, x535001, x535002, x546000, x546001, x546002 => if x546001.size + x2.size ≤ 9223372036854775807 then ((gafferref02_with.f k x535000 x535001 x535002 x546000 (x546001 ++ x2) x546002).bind fun bt547 => ((gafferref02_burnt.f bt547.1 bt547.2.1 bt547.2.2).bind fun bt552 => (if bt552.2.2.2 = true then (some (bt552.1, bt552.2.1, bt552.2.2.1, 0)) else (some (bt552.1, bt552.2.1, bt552.2.2.1, 8))))) else (none)
end
def gafferref02_Add.f (k : Nat) (l0_0 : List (S71)) (a0_1 : Bool) (a0_2 : Int) (a1 : ByteArray) (a2 : ByteArray) : Option ((List (S71)) × Bool × Int × Int) := (gafferref02_ready.f k l0_0 a0_1 a0_2).bind fun t536 => ((gafferref02_find.f k l0_0 a0_1 a0_2 a1).bind fun t537 => (if t536 = 0 then ((gafferref02_name.f a1).bind fun t538 => (gafferref02_Add.j0 k a1 a2 t536 t537 (!t538) l0_0 a0_1 a0_2)) else (gafferref02_Add.j0 k a1 a2 t536 t537 false l0_0 a0_1 a0_2)))
theorem gafferref02_Add.mono_l : ∀ k, (∀ y0 y1 y2 y3 y4 y5 y6 y7, LeO (gafferref02_Add.j0 k y0 y1 y2 y3 y4 y5 y6 y7) (gafferref02_Add.j0 (k + 1) y0 y1 y2 y3 y4 y5 y6 y7)) ∧ (∀ y0 y1 y2 y3 y4 y5 y6, LeO (gafferref02_Add.j1 k y0 y1 y2 y3 y4 y5 y6) (gafferref02_Add.j1 (k + 1) y0 y1 y2 y3 y4 y5 y6)) ∧ (∀ y0 y1 y2 y3 y4 y5 y6 y7, LeO (gafferref02_Add.j2 k y0 y1 y2 y3 y4 y5 y6 y7) (gafferref02_Add.j2 (k + 1) y0 y1 y2 y3 y4 y5 y6 y7)) ∧ (∀ y0 y1 y2 y3 y4 y5 y6, LeO (gafferref02_Add.j3 k y0 y1 y2 y3 y4 y5 y6) (gafferref02_Add.j3 (k + 1) y0 y1 y2 y3 y4 y5 y6)) ∧ (∀ y0 y1 y2 y3 y4 y5 y6, LeO (gafferref02_Add.j4 k y0 y1 y2 y3 y4 y5 y6) (gafferref02_Add.j4 (k + 1) y0 y1 y2 y3 y4 y5 y6))
 | 0 => ⟨fun _ _ _ _ _ _ _ _ r h => by simp [gafferref02_Add.j0] at h, fun _ _ _ _ _ _ _ r h => by simp [gafferref02_Add.j1] at h, fun _ _ _ _ _ _ _ _ r h => by simp [gafferref02_Add.j2] at h, fun _ _ _ _ _ _ _ r h => by simp [gafferref02_Add.j3] at h, fun _ _ _ _ _ _ _ r h => by simp [gafferref02_Add.j4] at h⟩
 | k + 1 => by
  obtain ⟨ih0, ih1, ih2, ih3, ih4⟩ := gafferref02_Add.mono_l k
  refine ⟨?_, ?_, ?_, ?_, ?_⟩
  ·intro y0 y1 y2 y3 y4 y5 y6 y7
   unfold gafferref02_Add.j0
   repeat' with_reducible first | apply ih0 | apply ih1 | apply ih2 | apply ih3 | apply ih4 | apply gafferref02_find.mono | apply gafferref02_ready.mono | apply gafferref02_with.mono | apply LeO.refl | apply LeO.none | apply LeO.ite | refine LeO.bind ?_ (fun _ => ?_)
  ·intro y0 y1 y2 y3 y4 y5 y6
   unfold gafferref02_Add.j1
   repeat' with_reducible first | apply ih0 | apply ih1 | apply ih2 | apply ih3 | apply ih4 | apply gafferref02_find.mono | apply gafferref02_ready.mono | apply gafferref02_with.mono | apply LeO.refl | apply LeO.none | apply LeO.ite | refine LeO.bind ?_ (fun _ => ?_)
  ·intro y0 y1 y2 y3 y4 y5 y6 y7
   unfold gafferref02_Add.j2
   repeat' with_reducible first | apply ih0 | apply ih1 | apply ih2 | apply ih3 | apply ih4 | apply gafferref02_find.mono | apply gafferref02_ready.mono | apply gafferref02_with.mono | apply LeO.refl | apply LeO.none | apply LeO.ite | refine LeO.bind ?_ (fun _ => ?_)
  ·intro y0 y1 y2 y3 y4 y5 y6
   unfold gafferref02_Add.j3
   repeat' with_reducible first | apply ih0 | apply ih1 | apply ih2 | apply ih3 | apply ih4 | apply gafferref02_find.mono | apply gafferref02_ready.mono | apply gafferref02_with.mono | apply LeO.refl | apply LeO.none | apply LeO.ite | refine LeO.bind ?_ (fun _ => ?_)
  ·intro y0 y1 y2 y3 y4 y5 y6
   unfold gafferref02_Add.j4
   repeat' with_reducible first | apply ih0 | apply ih1 | apply ih2 | apply ih3 | apply ih4 | apply gafferref02_find.mono | apply gafferref02_ready.mono | apply gafferref02_with.mono | apply LeO.refl | apply LeO.none | apply LeO.ite | refine LeO.bind ?_ (fun _ => ?_)
theorem gafferref02_Add.mono : ∀ a0 a1 a2 a3 a4 k, LeO (gafferref02_Add.f k a0 a1 a2 a3 a4) (gafferref02_Add.f (k + 1) a0 a1 a2 a3 a4) := by
 intro a0 a1 a2 a3 a4 k
 obtain ⟨ih0, ih1, ih2, ih3, ih4⟩ := gafferref02_Add.mono_l k
 unfold gafferref02_Add.f
 repeat' with_reducible first | apply ih0 | apply ih1 | apply ih2 | apply ih3 | apply ih4 | apply gafferref02_find.mono | apply gafferref02_ready.mono | apply gafferref02_with.mono | apply LeO.refl | apply LeO.none | apply LeO.ite | refine LeO.bind ?_ (fun _ => ?_)
theorem gafferref02_Add.calls (k : Nat) (A0_0 : Option Addr) (c0_0 : Nat) (l0_0 : List (S71)) (a0_1 : Bool) (a0_2 : Int) (a1 : ByteArray) (a2 : ByteArray) (r1 : List (S71)) (r2 : Bool) (r3 : Int) (r4 : Int) (w : World) (hr0_0 : Kd.C k71 w A0_0 l0_0.length l0_0) (hc0_0 : l0_0.length ≤ c0_0) (h : gafferref02_Add.f k l0_0 a0_1 a0_2 a1 a2 = some (r1, r2, r3, r4)) :
  Calls Try.prog 76 #[.agg #[.slice A0_0 l0_0.length c0_0, .bool a0_1, .int .i64 a0_2], .string a1, .string a2] w fun e w' => ∃ v0_ : Value, e = .returned (.tuple #[.agg #[v0_, .bool r2, .int .i64 r3], .int .i64 r4]) ∧ Kd.R k71 71 w' w.heap.size (fun _ => True) v0_ r1 ∧ Below w.heap.size w w' := by
 have hu_1 := Try.underlying24
 have hu_2 := Try.underlying71
 have HR_1 := a_ hr0_0
 have HC_1 := a_ hc0_0
 clear hr0_0 hc0_0
 have HB := a_ (Below.refl w.heap.size w)
 have H := h
 unfold gafferref02_Add.f at H
 clear h
 obtain ⟨t_1, A_2, H⟩ := ob_ H
 try dsimp only at H
 obtain ⟨t_2, A_4, H⟩ := ob_ H
 try dsimp only at H
 have HC_2 := a_ H
 clear H
 go_enter Try.func76, Try.ntmps76
 go_upto_region 3 with (first | ((with_reducible refine gd_ 3 ?_); (try (refine gate_guard (by rfl) ?_; dsimp only)); refine bz_ 3 #[.slice A0_0 l0_0.length c0_0, .bool a0_1, .int .i64 a0_2] 24 ?_; intro gb_1 hg w_1 BK_1 hb; have GE_1 := a_ (bs_0 hg HB); replace HB := hB_ (bl_ HB) hb; clear hb hg) | ((with_reducible refine gd_ 6 ?_); (try (refine gate_guard (by rfl) ?_; dsimp only)); refine bz_ 6 #[.slice none 0 0, .bool false, .int .i64 0] 24 ?_; intro gb_2 hg w_2 BK_2 hb; have GE_2 := a_ (bs_1 hg HB GE_1); replace HB := hB_ (bl_1 HB GE_1) hb; have NB_1 := nB_ hg BK_1; have NB_2 := nC_ hg BK_1; replace BK_1 := bB_ BK_1 hb; clear hb hg; have := NB_1.out; have := NB_2.out; obtain ⟨_, _, _, _, _, _⟩ := c3_ BK_1) | ((with_reducible refine gk_ 97 ?_); refine gl_ (some 14) Try.func97 #[.agg #[.slice A0_0 l0_0.length c0_0, .bool a0_1, .int .i64 a0_2]] ?_; (with_reducible refine (gafferref02_ready.calls _ _ _ _ _ _ _ _ ?side1 ?side2 A_2.out).mono ?_); (case side1 => exact cl_ (Kd.C_below HR_1.out HB.out)); (case side2 => exact HC_1.out); rintro e w_3 ⟨rfl, hb⟩; refine ⟨_, rfl, ?_⟩; replace BK_1 := bB_ BK_1 hb; replace BK_2 := bB_ BK_2 hb; replace HB := hB_ (bl_2 HB GE_1 GE_2) hb; (try clear hb); obtain ⟨_, _, _, _, _, _⟩ := c3_ BK_1) | ((with_reducible refine gk_ 64 ?_); refine gl_ (some 17) Try.func64 #[.agg #[.slice A0_0 l0_0.length c0_0, .bool a0_1, .int .i64 a0_2], .string a1] ?_; (with_reducible refine (gafferref02_find.calls _ _ _ _ _ _ _ _ _ ?side1 ?side2 A_4.out).mono ?_); (case side1 => exact cl_ (Kd.C_below HR_1.out HB.out)); (case side2 => exact HC_1.out); rintro e w_4 ⟨rfl, hb⟩; refine ⟨_, rfl, ?_⟩; replace BK_1 := bB_ BK_1 hb; replace BK_2 := bB_ BK_2 hb; replace HB := hB_ (bl_2 HB GE_1 GE_2) hb; (try clear hb)))
 (try simp only [Act.put, List.setIfInBounds_toArray, List.set_cons_zero, List.set_cons_succ])
 go_cut [24] (fun v24 wc => ∃ (kq : Nat) (x24_5 : Bool), v24 = .bool x24_5 ∧ Aside0 (gafferref02_Add.j0 kq a1 a2 t_1 t_2 x24_5 l0_0 a0_1 a0_2 = some (r1, r2, r3, r4)) ∧ Aside0 (kq ≤ k) ∧ Aside0 (wc.heap[gb_1]? = some (.cells #[(.slice A0_0 l0_0.length c0_0), .bool a0_1, .int .i64 a0_2] 24 (0, 0))) ∧ Aside0 (wc.heap[gb_2]? = some (.cells #[(.slice none 0 0), .bool false, .int .i64 0] 24 (0, 0))) ∧ Aside0 (Below w.heap.size w wc))
 case first =>
  have H := HC_2.out
  clear HC_2
  by_cases c_1 : t_1 = 0
  rotate_left
  focus
   rw [if_neg c_1] at H
   obtain ⟨c_2, c_3⟩ := bn_ c_1
   (first | rw [c_2] | (simp only [i64_w, i32_w]; rw [c_2]) | skip)
   have H' := a_ H
   clear H
   have L0_ := trivial
  rotate_left
  rw [if_pos c_1] at H
  obtain ⟨c_2, c_3⟩ := be_ c_1
  clear c_1
  (first | rw [c_2] | (simp only [i64_w, i32_w]; rw [c_2]) | skip)
  obtain ⟨t_3, A_6, H⟩ := ob_ H
  try dsimp only at H
  have H' := a_ H
  clear H
  have L1_ := trivial
  all_goals
   first
   | (have _ := L0_
      go_wp2
      go_meet
      case rel => exact ⟨_, (false), fz_, H', ⟨by first | omega | exact Nat.le_refl _⟩, ⟨bk_ BK_1⟩, ⟨bk_ BK_2⟩, ⟨bl_2 HB GE_1 GE_2⟩⟩)
   | (have _ := L1_
      go_wp2_with (go_at_call 101; (with_reducible refine (gafferref02_name.calls _ _ _ A_6.out).mono ?_); rintro e w' ⟨rfl, ⟨nd, rfl⟩⟩)
      go_meet
      case rel => exact ⟨_, (!t_3), fz_, H', ⟨by first | omega | exact Nat.le_refl _⟩, ⟨bk_ BK_1⟩, ⟨bk_ BK_2⟩, ⟨bl_2 HB GE_1 GE_2⟩⟩)
 case rest =>
  clear HC_2
  obtain ⟨kq, x_1, rfl, HA, HJ_1, BK_1, BK_2, HB⟩ := hcut
  cases kq with
  | zero => exact absurd HA.out (by simp [gafferref02_Add.j0])
  | succ kj5 =>
   have H := HA.out
   clear HA
   simp only [gafferref02_Add.j0] at H
   have HC_3 := a_ H
   clear H
   go_upto_if 24 with (fail)
   go_cut [8] (fun v8 wc => ∃ (kq : Nat) (x8_15 : Int), v8 = .int .i64 x8_15 ∧ Aside0 (gafferref02_Add.j1 kq a1 a2 x8_15 t_2 l0_0 a0_1 a0_2 = some (r1, r2, r3, r4)) ∧ Aside0 (kq ≤ kj5) ∧ Aside0 (wc.heap[gb_1]? = some (.cells #[(.slice A0_0 l0_0.length c0_0), .bool a0_1, .int .i64 a0_2] 24 (0, 0))) ∧ Aside0 (wc.heap[gb_2]? = some (.cells #[(.slice none 0 0), .bool false, .int .i64 0] 24 (0, 0))) ∧ Aside0 (Below w.heap.size w wc))
   case first =>
    have H := HC_3.out
    clear HC_3
    by_cases c_2 : x_1 = true
    ·subst c_2
     rw [if_pos rfl] at H
     have H' := a_ H
     clear H
     go_wp2
     go_meet
     case rel => exact ⟨_, (5), fz_, H', ⟨by have := HJ_1.out; first | omega | exact Nat.le_refl _⟩, ⟨bk_ BK_1⟩, ⟨bk_ BK_2⟩, ⟨bl_2 HB GE_1 GE_2⟩⟩
    replace c_2 := Bool.eq_false_iff.mpr c_2
    subst c_2
    rw [if_neg (show ¬ (false = true) by decide)] at H
    have H' := a_ H
    clear H
    go_wp2
    go_meet
    case rel => exact ⟨_, (t_1), fz_, H', ⟨by have := HJ_1.out; first | omega | exact Nat.le_refl _⟩, ⟨bk_ BK_1⟩, ⟨bk_ BK_2⟩, ⟨bl_2 HB GE_1 GE_2⟩⟩
   case rest =>
    clear HC_3
    obtain ⟨kq, x_2, rfl, HA, HJ_2, BK_1, BK_2, HB⟩ := hcut
    cases kq with
    | zero => exact absurd HA.out (by simp [gafferref02_Add.j1])
    | succ kj15 =>
     have H := HA.out
     clear HA
     simp only [gafferref02_Add.j1] at H
     have HC_4 := a_ H
     clear H
     go_upto_region 5 with (fail)
     go_cut [36] (fun v36 wc => ∃ (kq : Nat) (x36_17 : Bool), v36 = .bool x36_17 ∧ Aside0 (gafferref02_Add.j2 kq a1 a2 x_2 t_2 x36_17 l0_0 a0_1 a0_2 = some (r1, r2, r3, r4)) ∧ Aside0 (kq ≤ kj15) ∧ Aside0 (wc.heap[gb_1]? = some (.cells #[(.slice A0_0 l0_0.length c0_0), .bool a0_1, .int .i64 a0_2] 24 (0, 0))) ∧ Aside0 (wc.heap[gb_2]? = some (.cells #[(.slice none 0 0), .bool false, .int .i64 0] 24 (0, 0))) ∧ Aside0 (Below w.heap.size w wc))
     case first =>
      have H := HC_4.out
      clear HC_4
      by_cases c_3 : x_2 = 0
      rotate_left
      ·rw [if_neg c_3] at H
       obtain ⟨c_4, c_5⟩ := bn_ c_3
       (first | rw [c_4] | (simp only [i64_w, i32_w]; rw [c_4]) | skip)
       have H' := a_ H
       clear H
       go_wp2
       go_meet
       case rel => exact ⟨_, (false), fz_, H', ⟨by have := HJ_1.out; have := HJ_2.out; first | omega | exact Nat.le_refl _⟩, ⟨bk_ BK_1⟩, ⟨bk_ BK_2⟩, ⟨bl_2 HB GE_1 GE_2⟩⟩
      rw [if_pos c_3] at H
      obtain ⟨c_4, c_5⟩ := be_ c_3
      clear c_3
      (first | rw [c_4] | (simp only [i64_w, i32_w]; rw [c_4]) | skip)
      by_cases c_6 : t_2 < 0
      rotate_left
      ·rw [if_neg c_6] at H
       have c_7 : decide (t_2 < 0) = false := decide_eq_false c_6
       clear c_6
       have H' := a_ H
       clear H
       go_wp2
       go_meet
       case rel => exact ⟨_, (false), fz_, H', ⟨by have := HJ_1.out; have := HJ_2.out; first | omega | exact Nat.le_refl _⟩, ⟨bk_ BK_1⟩, ⟨bk_ BK_2⟩, ⟨bl_2 HB GE_1 GE_2⟩⟩
      rw [if_pos c_6] at H
      have c_7 : decide (t_2 < 0) = true := decide_eq_true c_6
      clear c_6
      have H' := a_ H
      clear H
      have := NB_1.out
      have := NB_2.out
      obtain ⟨_, _, _, _, _, _⟩ := c3_ BK_1
      go_wp2
      go_meet
      case rel => exact ⟨_, (decide ((l0_0.length : Int) ≥ 4096)), fz_, H', ⟨by have := HJ_1.out; have := HJ_2.out; first | omega | exact Nat.le_refl _⟩, ⟨bk_ BK_1⟩, ⟨bk_ BK_2⟩, ⟨bl_2 HB GE_1 GE_2⟩⟩
     case rest =>
      clear HC_4
      obtain ⟨kq, x_3, rfl, HA, HJ_3, BK_1, BK_2, HB⟩ := hcut
      cases kq with
      | zero => exact absurd HA.out (by simp [gafferref02_Add.j2])
      | succ kj17 =>
       have H := HA.out
       clear HA
       simp only [gafferref02_Add.j2] at H
       have HC_5 := a_ H
       clear H
       go_upto_if 36 with (fail)
       go_cut [8] (fun v8 wc => ∃ (kq : Nat) (x8_22 : Int), v8 = .int .i64 x8_22 ∧ Aside0 (gafferref02_Add.j3 kq a1 a2 x8_22 t_2 l0_0 a0_1 a0_2 = some (r1, r2, r3, r4)) ∧ Aside0 (kq ≤ kj17) ∧ Aside0 (wc.heap[gb_1]? = some (.cells #[(.slice A0_0 l0_0.length c0_0), .bool a0_1, .int .i64 a0_2] 24 (0, 0))) ∧ Aside0 (wc.heap[gb_2]? = some (.cells #[(.slice none 0 0), .bool false, .int .i64 0] 24 (0, 0))) ∧ Aside0 (Below w.heap.size w wc))
       case first =>
        have H := HC_5.out
        clear HC_5
        by_cases c_8 : x_3 = true
        ·subst c_8
         rw [if_pos rfl] at H
         have H' := a_ H
         clear H
         go_wp2
         go_meet
         case rel => exact ⟨_, (11), fz_, H', ⟨by have := HJ_1.out; have := HJ_2.out; have := HJ_3.out; first | omega | exact Nat.le_refl _⟩, ⟨bk_ BK_1⟩, ⟨bk_ BK_2⟩, ⟨bl_2 HB GE_1 GE_2⟩⟩
        replace c_8 := Bool.eq_false_iff.mpr c_8
        subst c_8
        rw [if_neg (show ¬ (false = true) by decide)] at H
        have H' := a_ H
        clear H
        go_wp2
        go_meet
        case rel => exact ⟨_, (x_2), fz_, H', ⟨by have := HJ_1.out; have := HJ_2.out; have := HJ_3.out; first | omega | exact Nat.le_refl _⟩, ⟨bk_ BK_1⟩, ⟨bk_ BK_2⟩, ⟨bl_2 HB GE_1 GE_2⟩⟩
       case rest =>
        clear HC_5
        obtain ⟨kq, x_4, rfl, HA, HJ_4, BK_1, BK_2, HB⟩ := hcut
        cases kq with
        | zero => exact absurd HA.out (by simp [gafferref02_Add.j3])
        | succ kj22 =>
         have H := HA.out
         clear HA
         simp only [gafferref02_Add.j3] at H
         by_cases c_9 : x_4 = 0
         rotate_left
         ·rw [if_neg c_9] at H
          obtain ⟨c_10, c_11⟩ := bn_ c_9
          obtain ⟨⟨t_3, t_4, t_5, t_6⟩, A_6, H⟩ := ob_ H
          try dsimp only at H
          obtain ⟨rfl, rfl, rfl, rfl⟩ := so4_ H
          have := NB_1.out
          have := NB_2.out
          obtain ⟨_, _, _, _, _, _⟩ := c3_ BK_1
          go_wp2_with (first | ((with_reducible refine gk_ 98 ?_); refine gl_ (some 41) Try.func98 #[.agg #[.slice A0_0 l0_0.length c0_0, .bool a0_1, .int .i64 a0_2], .int .i64 x_4] ?_; (with_reducible refine (gafferref02_bad.calls _ _ _ _ _ _ _ _ _ _ _ ?side1 ?side2 A_6.out).mono ?_); (case side1 => exact cl_ (Kd.C_below HR_1.out HB.out)); (case side2 => exact HC_1.out); rintro e w_5 ⟨v_1, rfl, ho_1, hb⟩; refine ⟨_, rfl, ?_⟩; have HO_1 := a_ (Kd.R_lower ho_1 (below_size (bl_2 HB GE_1 GE_2))); replace BK_1 := bB_ BK_1 hb; replace BK_2 := bB_ BK_2 hb; replace HB := hB_ (bl_2 HB GE_1 GE_2) hb; (try clear hb); (try clear ho_1); obtain ⟨Ao_1, co_1, eo_1⟩ := Kd.R_slice HO_1.out; subst eo_1; obtain ⟨_, _, _, _, _, _⟩ := c3_ BK_2))
          refine bodyPost_ret (results_ct rfl _ _ gb_2 24 #[.slice Ao_1 t_3.length co_1, .bool t_4, .int .i64 t_5] (0, 0) _ rfl (bp_0 BK_2) Try.underlying24 rfl (by kernel_rfl)) rfl ?_
          exact ⟨_, fz_, by refine rq_ ?_; exact rf1_ HO_1 BK_2, bl_2 HB GE_1 GE_2⟩
         rw [if_pos c_9] at H
         obtain ⟨c_10, c_11⟩ := be_ c_9
         clear c_9
         have HC_6 := a_ H
         clear H
         go_upto_if 47 with (first | ((with_reducible refine gd_ 10 ?_); (try (refine gate_guard (by rfl) ?_; dsimp only)); refine bz_ 10 #[.string (⟨#[]⟩ : ByteArray), .string (⟨#[]⟩ : ByteArray), .int .i64 0] 71 ?_; intro gb_3 hg w_6 BK_3 hb; have GW_1 := a_ (bs_2 hg HB GE_1 GE_2); have GE_3 := a_ (bs_2 hg HB GE_1 GE_2); replace HB := hB_ (bl_2 HB GE_1 GE_2) hb; have NB_3 := nB_ hg BK_1; have NB_4 := nC_ hg BK_1; replace BK_1 := bB_ BK_1 hb; have NB_5 := nB_ hg BK_2; have NB_6 := nC_ hg BK_2; replace BK_2 := bB_ BK_2 hb; clear hb hg; have := NB_4.out; have := NB_3.out; have := NB_6.out; have := NB_5.out; obtain ⟨_, _, _, _, _, _⟩ := c3_ BK_3))
         (try simp only [Act.put, List.setIfInBounds_toArray, List.set_cons_zero, List.set_cons_succ])
         go_cut [] (fun wc => ∃ (kq : Nat) (x546000_25 : ByteArray) (x546001_25 : ByteArray) (x546002_25 : Int), Aside0 (gafferref02_Add.j4 kq a2 l0_0 a0_1 a0_2 x546000_25 x546001_25 x546002_25 = some (r1, r2, r3, r4)) ∧ Aside0 (kq ≤ kj22) ∧ Aside0 (wc.heap[gb_1]? = some (.cells #[(.slice A0_0 l0_0.length c0_0), .bool a0_1, .int .i64 a0_2] 24 (0, 0))) ∧ Aside0 (wc.heap[gb_2]? = some (.cells #[(.slice none 0 0), .bool false, .int .i64 0] 24 (0, 0))) ∧ Aside0 (wc.heap[gb_3]? = some (.cells #[.string x546000_25, .string x546001_25, .int .i64 x546002_25] 71 (0, 0))) ∧ Aside0 (Below w.heap.size w wc))
         case first =>
          have H := HC_6.out
          clear HC_6
          by_cases c_12 : t_2 ≥ 0
          rotate_left
          ·rw [if_neg c_12] at H
           have c_13 : decide (0 ≤ t_2) = false := decide_eq_false c_12
           clear c_12
           (first | rw [c_13] | (simp only [i64_w, i32_w]; rw [c_13]) | skip)
           have H' := a_ H
           clear H
           go_wp2
           go_meet
           case rel => exact ⟨_, (a1), ((⟨#[]⟩ : ByteArray)), (0), H', ⟨by have := HJ_1.out; have := HJ_2.out; have := HJ_3.out; have := HJ_4.out; first | omega | exact Nat.le_refl _⟩, ⟨by refine bq_ ?_; refine blk_far ?_ NB_3.out _; refine bq_ ?_; refine blk_far ?_ NB_3.out _; refine bq_ ?_; refine blk_far ?_ NB_3.out _; refine bq_ ?_; exact BK_1.out⟩, ⟨by refine bq_ ?_; refine blk_far ?_ NB_5.out _; refine bq_ ?_; refine blk_far ?_ NB_5.out _; refine bq_ ?_; refine blk_far ?_ NB_5.out _; refine bq_ ?_; exact BK_2.out⟩, ⟨by refine bq_ ?_; refine blk_put (cs := #[.string a1, .string (⟨#[]⟩ : ByteArray), .int .i64 0]) ?_ 2 _ rfl; refine bq_ ?_; refine blk_put (cs := #[.string a1, .string (⟨#[]⟩ : ByteArray), .int .i64 0]) ?_ 1 _ rfl; refine bq_ ?_; refine blk_put (cs := #[.string (⟨#[]⟩ : ByteArray), .string (⟨#[]⟩ : ByteArray), .int .i64 0]) ?_ 0 _ rfl; refine bq_ ?_; exact BK_3.out⟩, ⟨bl_3 HB GE_1 GE_2 GE_3⟩⟩
          rw [if_pos c_12] at H
          have c_13 : decide (0 ≤ t_2) = true := decide_eq_true c_12
          clear c_12
          (first | rw [c_13] | (simp only [i64_w, i32_w]; rw [c_13]) | skip)
          replace H := ip_ H
          obtain ⟨-, c_15, H⟩ := H
          replace H := ip_ H
          obtain ⟨-, c_17, H⟩ := H
          have H' := a_ H
          clear H
          have := NB_1.out
          have := NB_2.out
          have := NB_3.out
          have := NB_4.out
          obtain ⟨_, _, _, _, _, _⟩ := c3_ BK_1
          have p_1 : 0 ≤ (t_2 : Int) := od_
          have q_1 : t_2 < (l0_0.length : Int) := od_
          obtain ⟨ad_1, e_1, hx_1, hx_2, hx_3⟩ := at_T71 HR_1.out t_2 p_1 q_1
          cases e_1
          have hn_1 : ad_1.block ≠ gb_3 := Nat.ne_of_lt (Nat.lt_of_lt_of_le (by have := World.block_lt_of_cell? _ _ hx_1; first | rwa [add_block] at this | exact this) GW_1.out)
          have hn_2 : ad_1.block ≠ gb_3 := Nat.ne_of_lt (Nat.lt_of_lt_of_le (by have := World.block_lt_of_cell? _ _ hx_1; first | rwa [add_block] at this | exact this) GW_1.out)
          have hn_3 : ad_1.block ≠ gb_3 := Nat.ne_of_lt (Nat.lt_of_lt_of_le (by have := World.block_lt_of_cell? _ _ hx_1; first | rwa [add_block] at this | exact this) GW_1.out)
          replace hx_1 := hc_ HB hx_1
          replace hx_2 := hc_ HB hx_2
          replace hx_3 := hc_ HB hx_3
          replace hx_1 := (cf_ (p := ⟨gb_3, 0, none⟩) hn_1 (.string a1)).trans hx_1
          replace hx_2 := (cf_ (p := ⟨gb_3, 0, none⟩) hn_1 (.string a1)).trans hx_2
          replace hx_3 := (cf_ (p := ⟨gb_3, 0, none⟩) hn_1 (.string a1)).trans hx_3
          replace hx_1 := (cf_ (p := ⟨gb_3, 1, none⟩) hn_2 (.string (⟨#[]⟩ : ByteArray))).trans hx_1
          replace hx_2 := (cf_ (p := ⟨gb_3, 1, none⟩) hn_2 (.string (⟨#[]⟩ : ByteArray))).trans hx_2
          replace hx_3 := (cf_ (p := ⟨gb_3, 1, none⟩) hn_2 (.string (⟨#[]⟩ : ByteArray))).trans hx_3
          replace hx_1 := (cf_ (p := ⟨gb_3, 2, none⟩) hn_3 (.int .i64 0)).trans hx_1
          replace hx_2 := (cf_ (p := ⟨gb_3, 2, none⟩) hn_3 (.int .i64 0)).trans hx_2
          replace hx_3 := (cf_ (p := ⟨gb_3, 2, none⟩) hn_3 (.int .i64 0)).trans hx_3
          clear hn_1
          clear hn_2
          clear hn_3
          replace p_1 := eq_true p_1
          replace q_1 := eq_true q_1
          have := NB_6.out
          have := NB_5.out
          obtain ⟨_, _, _, _, _, _⟩ := c3_ BK_3
          go_wp2
          go_meet
          case rel => exact ⟨_, ((rd_T71 l0_0 t_2).f0), ((rd_T71 l0_0 t_2).f1), ((rd_T71 l0_0 t_2).f2), H', ⟨by have := HJ_1.out; have := HJ_2.out; have := HJ_3.out; have := HJ_4.out; first | omega | exact Nat.le_refl _⟩, ⟨by refine bq_ ?_; refine blk_far ?_ NB_3.out _; refine bq_ ?_; refine blk_far ?_ NB_3.out _; refine bq_ ?_; refine blk_far ?_ NB_3.out _; refine bq_ ?_; refine blk_far ?_ NB_3.out _; refine bq_ ?_; refine blk_far ?_ NB_3.out _; refine bq_ ?_; refine blk_far ?_ NB_3.out _; refine bq_ ?_; exact BK_1.out⟩, ⟨by refine bq_ ?_; refine blk_far ?_ NB_5.out _; refine bq_ ?_; refine blk_far ?_ NB_5.out _; refine bq_ ?_; refine blk_far ?_ NB_5.out _; refine bq_ ?_; refine blk_far ?_ NB_5.out _; refine bq_ ?_; refine blk_far ?_ NB_5.out _; refine bq_ ?_; refine blk_far ?_ NB_5.out _; refine bq_ ?_; exact BK_2.out⟩, ⟨by refine bq_ ?_; refine blk_put (cs := #[.string ((rd_T71 l0_0 t_2).f0), .string ((rd_T71 l0_0 t_2).f1), .int .i64 0]) ?_ 2 _ rfl; refine bq_ ?_; refine blk_put (cs := #[.string ((rd_T71 l0_0 t_2).f0), .string (⟨#[]⟩ : ByteArray), .int .i64 0]) ?_ 1 _ rfl; refine bq_ ?_; refine blk_put (cs := #[.string a1, .string (⟨#[]⟩ : ByteArray), .int .i64 0]) ?_ 0 _ rfl; refine bq_ ?_; refine blk_put (cs := #[.string a1, .string (⟨#[]⟩ : ByteArray), .int .i64 0]) ?_ 2 _ rfl; refine bq_ ?_; refine blk_put (cs := #[.string a1, .string (⟨#[]⟩ : ByteArray), .int .i64 0]) ?_ 1 _ rfl; refine bq_ ?_; refine blk_put (cs := #[.string (⟨#[]⟩ : ByteArray), .string (⟨#[]⟩ : ByteArray), .int .i64 0]) ?_ 0 _ rfl; refine bq_ ?_; exact BK_3.out⟩, ⟨bl_3 HB GE_1 GE_2 GE_3⟩⟩
         case rest =>
          clear HC_6
          try clear c_9
          try clear c_10
          try clear c_11
          obtain ⟨kq, x_5, x_6, x_7, HA, HJ_5, BK_1, BK_2, BK_3, HB⟩ := hcut
          cases kq with
          | zero => exact absurd HA.out (by simp [gafferref02_Add.j4])
          | succ kj25 =>
           have H := HA.out
           clear HA
           simp only [gafferref02_Add.j4] at H
           replace H := iq_ H
           obtain ⟨c_18, H⟩ := H
           have c_19 := eq_true c_18
           have c_20 : decide (x_6.size + a2.size ≤ 9223372036854775807) = true := decide_eq_true c_18
           try have c_21 : (9223372036854775807 < x_6.size + a2.size) = False := eq_false (Nat.not_lt.2 c_18)
           clear c_18
           obtain ⟨⟨t_7, t_8, t_9⟩, A_1, H⟩ := ob_ H
           try dsimp only at H
           obtain ⟨⟨t_10, t_11, t_12, t_13⟩, A_9, H⟩ := ob_ H
           try dsimp only at H
           by_cases c_22 : t_13 = true
           ·subst c_22
            rw [if_pos rfl] at H
            obtain ⟨rfl, rfl, rfl, rfl⟩ := so4_ H
            have := NB_4.out
            have := NB_3.out
            have := NB_6.out
            have := NB_5.out
            obtain ⟨_, _, _, _, _, _⟩ := c3_ BK_3
            have := NB_1.out
            have := NB_2.out
            obtain ⟨_, _, _, _, _, _⟩ := c3_ BK_1
            go_wp2_with (first | ((with_reducible refine gk_ 102 ?_); refine gl_ (some 61) Try.func102 #[.agg #[.slice A0_0 l0_0.length c0_0, .bool a0_1, .int .i64 a0_2], .agg #[.string x_5, .string (x_6 ++ a2), .int .i64 x_7]] ?_; (with_reducible refine (gafferref02_with.calls _ _ _ _ _ _ _ _ _ _ _ _ _ ?side1 ?side2 A_1.out).mono ?_); (case side1 => exact Kd.C_below HR_1.out (bl_3 HB GE_1 GE_2 GE_3)); (case side2 => exact HC_1.out); rintro e w_7 ⟨v_2, rfl, ho_1, hb⟩; refine ⟨_, rfl, ?_⟩; have HO_2 := a_ (Kd.R_lower (Kd.R_newB ho_1 (g := gb_3) (o := .cells #[.string x_5, .string (x_6 ++ a2), .int .i64 x_7] 71 (0, 0)) (bp_0 BK_3)) (below_size (bl_3 HB GE_1 GE_2 GE_3))); replace BK_1 := bw_1 #[.slice A0_0 l0_0.length c0_0, .bool a0_1, .int .i64 a0_2] BK_1 NB_3 hb; replace BK_2 := bw_1 #[.slice none 0 0, .bool false, .int .i64 0] BK_2 NB_5 hb; replace BK_3 := bw_0 #[.string x_5, .string (x_6 ++ a2), .int .i64 x_7] BK_3 hb; replace HB := hB_ (bl_3 HB GE_1 GE_2 GE_3) hb; (try clear hb); (try clear ho_1); obtain ⟨Ao_2, co_2, eo_2⟩ := Kd.R_slice HO_2.out; subst eo_2) | ((with_reducible refine gk_ 99 ?_); refine gl_ (some 62) Try.func99 #[.agg #[.slice Ao_2 t_7.length co_2, .bool t_8, .int .i64 t_9]] ?_; (with_reducible refine (gafferref02_burnt.calls (fun k_ => some k_ = (.slice Ao_2 t_7.length co_2 : Value).ownBlock) _ _ _ _ _ _ _ _ w _ ?side1 ?side2 A_9.out).mono ?_); (case side1 => exact hb3_ HB GE_1.out GE_2.out GE_3.out); (case side2 => exact Kd.R_tight rfl HO_2.out); rintro e w_8 ⟨v_3, rfl, ho_1, hb, hkp⟩; refine ⟨_, rfl, ?_⟩; replace BK_1 := kp_ BK_1 hkp HO_2; replace BK_2 := kp_ BK_2 hkp HO_2; have HO_3 := a_ (Kd.R_mono (ok' := fun k_ => k_ ≠ gb_3) ho_1 (fun k_ hk_ => Or.elim hk_ (fun hs_ => fun e_ => (Kd.R_away HO_2.out (fun _ hk => hk.2)) (by rw [← e_]; exact hs_)) (fun hn_ => (Kd.freshB (g := gb_3) (o := .cells #[.string x_5, .string (x_6 ++ a2), .int .i64 x_7] 71 (0, 0)) (bk_ BK_3) k_ hn_)))); replace BK_3 := a_ (blk_kept (bk_ BK_3) hkp (fun hs_ => (fun e_ => (Kd.R_away HO_2.out (fun _ hk => hk.2)) e_) hs_)); replace HB := a_ (hb); clear HO_2; (try clear hb); (try clear hkp); (try clear ho_1)) | ((with_reducible refine gd_ 11 ?_); (try (refine gate_guard (by rfl) ?_; dsimp only)); refine bz_ 11 #[.slice none 0 0, .bool false, .int .i64 0] 24 ?_; intro gb_4 hg w_9 BK_4 hb; replace HO_3 := rb_ HO_3 hb; have GE_4 := a_ (bs_3 hg HB GE_1 GE_2 GE_3); replace HB := hB_ (bl_3 HB GE_1 GE_2 GE_3) hb; have NB_7 := nB_ hg BK_1; have NB_8 := nC_ hg BK_1; replace BK_1 := bB_ BK_1 hb; have NB_9 := nB_ hg BK_2; have NB_10 := nC_ hg BK_2; replace BK_2 := bB_ BK_2 hb; have NB_11 := nB_ hg BK_3; have NB_12 := nC_ hg BK_3; replace BK_3 := bB_ BK_3 hb; clear hb hg; obtain ⟨Ao_3, co_3, eo_3⟩ := Kd.R_slice HO_3.out; subst eo_3; have := NB_8.out; have := NB_7.out; have := NB_10.out; have := NB_9.out; have := NB_12.out; have := NB_11.out; obtain ⟨_, _, _, _, _, _⟩ := c3_ BK_4; obtain ⟨_, _, _, _, _, _⟩ := c3_ BK_2))
            refine bodyPost_ret (results_ct rfl _ _ gb_2 24 #[.slice Ao_3 t_10.length co_3, .bool t_11, .int .i64 t_12] (0, 0) _ rfl (bp_1 BK_2 NB_9) Try.underlying24 rfl (by kernel_rfl)) rfl ?_
            exact ⟨_, fz_, by refine rq_ ?_; exact rf2_ HO_3 BK_4 BK_2, bl_4 HB GE_1 GE_2 GE_3 GE_4⟩
           replace c_22 := Bool.eq_false_iff.mpr c_22
           subst c_22
           rw [if_neg (show ¬ (false = true) by decide)] at H
           obtain ⟨rfl, rfl, rfl, rfl⟩ := so4_ H
           have := NB_4.out
           have := NB_3.out
           have := NB_6.out
           have := NB_5.out
           obtain ⟨_, _, _, _, _, _⟩ := c3_ BK_3
           have := NB_1.out
           have := NB_2.out
           obtain ⟨_, _, _, _, _, _⟩ := c3_ BK_1
           go_wp2_with (first | ((with_reducible refine gk_ 102 ?_); refine gl_ (some 61) Try.func102 #[.agg #[.slice A0_0 l0_0.length c0_0, .bool a0_1, .int .i64 a0_2], .agg #[.string x_5, .string (x_6 ++ a2), .int .i64 x_7]] ?_; (with_reducible refine (gafferref02_with.calls _ _ _ _ _ _ _ _ _ _ _ _ _ ?side1 ?side2 A_1.out).mono ?_); (case side1 => exact Kd.C_below HR_1.out (bl_3 HB GE_1 GE_2 GE_3)); (case side2 => exact HC_1.out); rintro e w_10 ⟨v_2, rfl, ho_1, hb⟩; refine ⟨_, rfl, ?_⟩; have HO_2 := a_ (Kd.R_lower (Kd.R_newB ho_1 (g := gb_3) (o := .cells #[.string x_5, .string (x_6 ++ a2), .int .i64 x_7] 71 (0, 0)) (bp_0 BK_3)) (below_size (bl_3 HB GE_1 GE_2 GE_3))); replace BK_1 := bw_1 #[.slice A0_0 l0_0.length c0_0, .bool a0_1, .int .i64 a0_2] BK_1 NB_3 hb; replace BK_2 := bw_1 #[.slice none 0 0, .bool false, .int .i64 0] BK_2 NB_5 hb; replace BK_3 := bw_0 #[.string x_5, .string (x_6 ++ a2), .int .i64 x_7] BK_3 hb; replace HB := hB_ (bl_3 HB GE_1 GE_2 GE_3) hb; (try clear hb); (try clear ho_1); obtain ⟨Ao_4, co_4, eo_4⟩ := Kd.R_slice HO_2.out; subst eo_4) | ((with_reducible refine gk_ 99 ?_); refine gl_ (some 62) Try.func99 #[.agg #[.slice Ao_4 t_7.length co_4, .bool t_8, .int .i64 t_9]] ?_; (with_reducible refine (gafferref02_burnt.calls (fun k_ => some k_ = (.slice Ao_4 t_7.length co_4 : Value).ownBlock) _ _ _ _ _ _ _ _ w _ ?side1 ?side2 A_9.out).mono ?_); (case side1 => exact hb3_ HB GE_1.out GE_2.out GE_3.out); (case side2 => exact Kd.R_tight rfl HO_2.out); rintro e w_11 ⟨v_3, rfl, ho_1, hb, hkp⟩; refine ⟨_, rfl, ?_⟩; replace BK_1 := kp_ BK_1 hkp HO_2; replace BK_2 := kp_ BK_2 hkp HO_2; have HO_3 := a_ (Kd.R_mono (ok' := fun k_ => k_ ≠ gb_3) ho_1 (fun k_ hk_ => Or.elim hk_ (fun hs_ => fun e_ => (Kd.R_away HO_2.out (fun _ hk => hk.2)) (by rw [← e_]; exact hs_)) (fun hn_ => (Kd.freshB (g := gb_3) (o := .cells #[.string x_5, .string (x_6 ++ a2), .int .i64 x_7] 71 (0, 0)) (bk_ BK_3) k_ hn_)))); replace BK_3 := a_ (blk_kept (bk_ BK_3) hkp (fun hs_ => (fun e_ => (Kd.R_away HO_2.out (fun _ hk => hk.2)) e_) hs_)); replace HB := a_ (hb); clear HO_2; (try clear hb); (try clear hkp); (try clear ho_1)) | ((with_reducible refine gd_ 11 ?_); (try (refine gate_guard (by rfl) ?_; dsimp only)); refine bz_ 11 #[.slice none 0 0, .bool false, .int .i64 0] 24 ?_; intro gb_4 hg w_12 BK_4 hb; replace HO_3 := rb_ HO_3 hb; have GE_4 := a_ (bs_3 hg HB GE_1 GE_2 GE_3); replace HB := hB_ (bl_3 HB GE_1 GE_2 GE_3) hb; have NB_7 := nB_ hg BK_1; have NB_8 := nC_ hg BK_1; replace BK_1 := bB_ BK_1 hb; have NB_9 := nB_ hg BK_2; have NB_10 := nC_ hg BK_2; replace BK_2 := bB_ BK_2 hb; have NB_11 := nB_ hg BK_3; have NB_12 := nC_ hg BK_3; replace BK_3 := bB_ BK_3 hb; clear hb hg; obtain ⟨Ao_5, co_5, eo_5⟩ := Kd.R_slice HO_3.out; subst eo_5; have := NB_8.out; have := NB_7.out; have := NB_10.out; have := NB_9.out; have := NB_12.out; have := NB_11.out; obtain ⟨_, _, _, _, _, _⟩ := c3_ BK_4; obtain ⟨_, _, _, _, _, _⟩ := c3_ BK_2))
           refine bodyPost_ret (results_ct rfl _ _ gb_2 24 #[.slice Ao_5 t_10.length co_5, .bool t_11, .int .i64 t_12] (0, 0) _ rfl (bp_1 BK_2 NB_9) Try.underlying24 rfl (by kernel_rfl)) rfl ?_
           exact ⟨_, fz_, by refine rq_ ?_; exact rf2_ HO_3 BK_4 BK_2, bl_4 HB GE_1 GE_2 GE_3 GE_4⟩
mutual
def gafferref02_Sync.j0 : Nat → Int → Int → Bool → List (S71) → Bool → Int → Option ((List (S71)) × Bool × Int × Int)
 | 0, _, _, _, _, _, _ => none
 | k + 1, x6, x7, x21, x560000, x560001, x560002 => if x21 = true then (gafferref02_Sync.j1 k 6 x7 x560000 x560001 x560002) else (gafferref02_Sync.j1 k x6 x7 x560000 x560001 x560002)
def gafferref02_Sync.j1 : Nat → Int → Int → List (S71) → Bool → Int → Option ((List (S71)) × Bool × Int × Int)
 | 0, _, _, _, _, _ => none
 | k + 1, x6, x7, x560000, x560001, x560002 => if x6 = 0 then ((gafferref02_Copy.f x560000 x560001 x560002).bind fun bt569 => ((gafferref02_burnt.f bt569.1 bt569.2.1 bt569.2.2).bind fun bt574 => (if bt574.2.2.2 = true then (if 0 ≤ x7 then (if x7 < (bt574.1.length : Int) then ((gafferref02_with.f k bt574.1 bt574.2.1 bt574.2.2.1 ((rd_T71 bt574.1 x7).f0) ((rd_T71 bt574.1 x7).f1) (((rd_T71 bt574.1 x7).f1).size : Int)).bind fun bt583 => (some (bt583.1, bt583.2.1, bt583.2.2, 0))) else (none)) else (none)) else (some (bt574.1, bt574.2.1, bt574.2.2.1, 8))))) else ((gafferref02_bad.f x560000 x560001 x560002 x6).bind fun bt563 => (some (bt563.1, bt563.2.1, bt563.2.2.1, bt563.2.2.2)))
end
def gafferref02_Sync.f (k : Nat) (l0_0 : List (S71)) (a0_1 : Bool) (a0_2 : Int) (a1 : ByteArray) : Option ((List (S71)) × Bool × Int × Int) := (gafferref02_ready.f k l0_0 a0_1 a0_2).bind fun t561 => ((gafferref02_find.f k l0_0 a0_1 a0_2 a1).bind fun t562 => (if t561 = 0 then (gafferref02_Sync.j0 k t561 t562 (decide (t562 < 0)) l0_0 a0_1 a0_2) else (gafferref02_Sync.j0 k t561 t562 false l0_0 a0_1 a0_2)))
theorem gafferref02_Sync.mono_l : ∀ k, (∀ y0 y1 y2 y3 y4 y5, LeO (gafferref02_Sync.j0 k y0 y1 y2 y3 y4 y5) (gafferref02_Sync.j0 (k + 1) y0 y1 y2 y3 y4 y5)) ∧ (∀ y0 y1 y2 y3 y4, LeO (gafferref02_Sync.j1 k y0 y1 y2 y3 y4) (gafferref02_Sync.j1 (k + 1) y0 y1 y2 y3 y4))
 | 0 => ⟨fun _ _ _ _ _ _ r h => by simp [gafferref02_Sync.j0] at h, fun _ _ _ _ _ r h => by simp [gafferref02_Sync.j1] at h⟩
 | k + 1 => by
  obtain ⟨ih0, ih1⟩ := gafferref02_Sync.mono_l k
  refine ⟨?_, ?_⟩
  ·intro y0 y1 y2 y3 y4 y5
   unfold gafferref02_Sync.j0
   repeat' with_reducible first | apply ih0 | apply ih1 | apply gafferref02_find.mono | apply gafferref02_ready.mono | apply gafferref02_with.mono | apply LeO.refl | apply LeO.none | apply LeO.ite | refine LeO.bind ?_ (fun _ => ?_)
  ·intro y0 y1 y2 y3 y4
   unfold gafferref02_Sync.j1
   repeat' with_reducible first | apply ih0 | apply ih1 | apply gafferref02_find.mono | apply gafferref02_ready.mono | apply gafferref02_with.mono | apply LeO.refl | apply LeO.none | apply LeO.ite | refine LeO.bind ?_ (fun _ => ?_)
theorem gafferref02_Sync.mono : ∀ a0 a1 a2 a3 k, LeO (gafferref02_Sync.f k a0 a1 a2 a3) (gafferref02_Sync.f (k + 1) a0 a1 a2 a3) := by
 intro a0 a1 a2 a3 k
 obtain ⟨ih0, ih1⟩ := gafferref02_Sync.mono_l k
 unfold gafferref02_Sync.f
 repeat' with_reducible first | apply ih0 | apply ih1 | apply gafferref02_find.mono | apply gafferref02_ready.mono | apply gafferref02_with.mono | apply LeO.refl | apply LeO.none | apply LeO.ite | refine LeO.bind ?_ (fun _ => ?_)
theorem gafferref02_Sync.calls (k : Nat) (A0_0 : Option Addr) (c0_0 : Nat) (l0_0 : List (S71)) (a0_1 : Bool) (a0_2 : Int) (a1 : ByteArray) (r1 : List (S71)) (r2 : Bool) (r3 : Int) (r4 : Int) (w : World) (hr0_0 : Kd.C k71 w A0_0 l0_0.length l0_0) (hc0_0 : l0_0.length ≤ c0_0) (h : gafferref02_Sync.f k l0_0 a0_1 a0_2 a1 = some (r1, r2, r3, r4)) :
  Calls Try.prog 77 #[.agg #[.slice A0_0 l0_0.length c0_0, .bool a0_1, .int .i64 a0_2], .string a1] w fun e w' => ∃ v0_ : Value, e = .returned (.tuple #[.agg #[v0_, .bool r2, .int .i64 r3], .int .i64 r4]) ∧ Kd.R k71 71 w' w.heap.size (fun _ => True) v0_ r1 ∧ Below w.heap.size w w' := by
 have hu_1 := Try.underlying24
 have hu_2 := Try.underlying71
 have HR_1 := a_ hr0_0
 have HC_1 := a_ hc0_0
 clear hr0_0 hc0_0
 have HB := a_ (Below.refl w.heap.size w)
 have H := h
 unfold gafferref02_Sync.f at H
 clear h
 obtain ⟨t_1, A_2, H⟩ := ob_ H
 try dsimp only at H
 obtain ⟨t_2, A_4, H⟩ := ob_ H
 try dsimp only at H
 have HC_2 := a_ H
 clear H
 go_enter Try.func77, Try.ntmps77
 go_upto_region 3 with (first | ((with_reducible refine gd_ 2 ?_); refine bz_ 2 #[.slice A0_0 l0_0.length c0_0, .bool a0_1, .int .i64 a0_2] 24 ?_; intro gb_1 hg w_1 BK_1 hb; have GE_1 := a_ (bs_0 hg HB); replace HB := hB_ (bl_ HB) hb; clear hb hg) | ((with_reducible refine gd_ 4 ?_); refine bz_ 4 #[.slice none 0 0, .bool false, .int .i64 0] 24 ?_; intro gb_2 hg w_2 BK_2 hb; have GE_2 := a_ (bs_1 hg HB GE_1); replace HB := hB_ (bl_1 HB GE_1) hb; have NB_1 := nB_ hg BK_1; have NB_2 := nC_ hg BK_1; replace BK_1 := bB_ BK_1 hb; clear hb hg; have := NB_1.out; have := NB_2.out; obtain ⟨_, _, _, _, _, _⟩ := c3_ BK_1) | ((with_reducible refine gk_ 97 ?_); refine gl_ (some 12) Try.func97 #[.agg #[.slice A0_0 l0_0.length c0_0, .bool a0_1, .int .i64 a0_2]] ?_; (with_reducible refine (gafferref02_ready.calls _ _ _ _ _ _ _ _ ?side1 ?side2 A_2.out).mono ?_); (case side1 => exact cl_ (Kd.C_below HR_1.out HB.out)); (case side2 => exact HC_1.out); rintro e w_3 ⟨rfl, hb⟩; refine ⟨_, rfl, ?_⟩; replace BK_1 := bB_ BK_1 hb; replace BK_2 := bB_ BK_2 hb; replace HB := hB_ (bl_2 HB GE_1 GE_2) hb; (try clear hb); obtain ⟨_, _, _, _, _, _⟩ := c3_ BK_1) | ((with_reducible refine gk_ 64 ?_); refine gl_ (some 15) Try.func64 #[.agg #[.slice A0_0 l0_0.length c0_0, .bool a0_1, .int .i64 a0_2], .string a1] ?_; (with_reducible refine (gafferref02_find.calls _ _ _ _ _ _ _ _ _ ?side1 ?side2 A_4.out).mono ?_); (case side1 => exact cl_ (Kd.C_below HR_1.out HB.out)); (case side2 => exact HC_1.out); rintro e w_4 ⟨rfl, hb⟩; refine ⟨_, rfl, ?_⟩; replace BK_1 := bB_ BK_1 hb; replace BK_2 := bB_ BK_2 hb; replace HB := hB_ (bl_2 HB GE_1 GE_2) hb; (try clear hb)))
 (try simp only [Act.put, List.setIfInBounds_toArray, List.set_cons_zero, List.set_cons_succ])
 go_cut [21] (fun v21 wc => ∃ (kq : Nat) (x21_4 : Bool), v21 = .bool x21_4 ∧ Aside0 (gafferref02_Sync.j0 kq t_1 t_2 x21_4 l0_0 a0_1 a0_2 = some (r1, r2, r3, r4)) ∧ Aside0 (kq ≤ k) ∧ Aside0 (wc.heap[gb_1]? = some (.cells #[(.slice A0_0 l0_0.length c0_0), .bool a0_1, .int .i64 a0_2] 24 (0, 0))) ∧ Aside0 (wc.heap[gb_2]? = some (.cells #[(.slice none 0 0), .bool false, .int .i64 0] 24 (0, 0))) ∧ Aside0 (Below w.heap.size w wc))
 case first =>
  have H := HC_2.out
  clear HC_2
  by_cases c_1 : t_1 = 0
  rotate_left
  focus
   rw [if_neg c_1] at H
   obtain ⟨c_2, c_3⟩ := bn_ c_1
   (first | rw [c_2] | (simp only [i64_w, i32_w]; rw [c_2]) | skip)
   have H' := a_ H
   clear H
   have L0_ := trivial
  rotate_left
  rw [if_pos c_1] at H
  obtain ⟨c_2, c_3⟩ := be_ c_1
  clear c_1
  (first | rw [c_2] | (simp only [i64_w, i32_w]; rw [c_2]) | skip)
  have H' := a_ H
  clear H
  have L1_ := trivial
  all_goals
   go_wp2
   go_meet
   first
   | (have _ := L0_
      case rel => exact ⟨_, (false), fz_, H', ⟨by first | omega | exact Nat.le_refl _⟩, ⟨bk_ BK_1⟩, ⟨bk_ BK_2⟩, ⟨bl_2 HB GE_1 GE_2⟩⟩)
   | (have _ := L1_
      case rel => exact ⟨_, (decide (t_2 < 0)), fz_, H', ⟨by first | omega | exact Nat.le_refl _⟩, ⟨bk_ BK_1⟩, ⟨bk_ BK_2⟩, ⟨bl_2 HB GE_1 GE_2⟩⟩)
 case rest =>
  clear HC_2
  obtain ⟨kq, x_1, rfl, HA, HJ_1, BK_1, BK_2, HB⟩ := hcut
  cases kq with
  | zero => exact absurd HA.out (by simp [gafferref02_Sync.j0])
  | succ kj4 =>
   have H := HA.out
   clear HA
   simp only [gafferref02_Sync.j0] at H
   have HC_3 := a_ H
   clear H
   go_upto_if 21 with (fail)
   go_cut [6] (fun v6 wc => ∃ (kq : Nat) (x6_13 : Int), v6 = .int .i64 x6_13 ∧ Aside0 (gafferref02_Sync.j1 kq x6_13 t_2 l0_0 a0_1 a0_2 = some (r1, r2, r3, r4)) ∧ Aside0 (kq ≤ kj4) ∧ Aside0 (wc.heap[gb_1]? = some (.cells #[(.slice A0_0 l0_0.length c0_0), .bool a0_1, .int .i64 a0_2] 24 (0, 0))) ∧ Aside0 (wc.heap[gb_2]? = some (.cells #[(.slice none 0 0), .bool false, .int .i64 0] 24 (0, 0))) ∧ Aside0 (Below w.heap.size w wc))
   case first =>
    have H := HC_3.out
    clear HC_3
    by_cases c_2 : x_1 = true
    ·subst c_2
     rw [if_pos rfl] at H
     have H' := a_ H
     clear H
     go_wp2
     go_meet
     case rel => exact ⟨_, (6), fz_, H', ⟨by have := HJ_1.out; first | omega | exact Nat.le_refl _⟩, ⟨bk_ BK_1⟩, ⟨bk_ BK_2⟩, ⟨bl_2 HB GE_1 GE_2⟩⟩
    replace c_2 := Bool.eq_false_iff.mpr c_2
    subst c_2
    rw [if_neg (show ¬ (false = true) by decide)] at H
    have H' := a_ H
    clear H
    go_wp2
    go_meet
    case rel => exact ⟨_, (t_1), fz_, H', ⟨by have := HJ_1.out; first | omega | exact Nat.le_refl _⟩, ⟨bk_ BK_1⟩, ⟨bk_ BK_2⟩, ⟨bl_2 HB GE_1 GE_2⟩⟩
   case rest =>
    clear HC_3
    obtain ⟨kq, x_2, rfl, HA, HJ_2, BK_1, BK_2, HB⟩ := hcut
    cases kq with
    | zero => exact absurd HA.out (by simp [gafferref02_Sync.j1])
    | succ kj13 =>
     have H := HA.out
     clear HA
     simp only [gafferref02_Sync.j1] at H
     by_cases c_3 : x_2 = 0
     rotate_left
     ·rw [if_neg c_3] at H
      obtain ⟨c_4, c_5⟩ := bn_ c_3
      obtain ⟨⟨t_3, t_4, t_5, t_6⟩, A_6, H⟩ := ob_ H
      try dsimp only at H
      obtain ⟨rfl, rfl, rfl, rfl⟩ := so4_ H
      have := NB_1.out
      have := NB_2.out
      obtain ⟨_, _, _, _, _, _⟩ := c3_ BK_1
      go_wp2_with (first | ((with_reducible refine gk_ 98 ?_); refine gl_ (some 26) Try.func98 #[.agg #[.slice A0_0 l0_0.length c0_0, .bool a0_1, .int .i64 a0_2], .int .i64 x_2] ?_; (with_reducible refine (gafferref02_bad.calls _ _ _ _ _ _ _ _ _ _ _ ?side1 ?side2 A_6.out).mono ?_); (case side1 => exact cl_ (Kd.C_below HR_1.out HB.out)); (case side2 => exact HC_1.out); rintro e w_5 ⟨v_1, rfl, ho_1, hb⟩; refine ⟨_, rfl, ?_⟩; have HO_1 := a_ (Kd.R_lower ho_1 (below_size (bl_2 HB GE_1 GE_2))); replace BK_1 := bB_ BK_1 hb; replace BK_2 := bB_ BK_2 hb; replace HB := hB_ (bl_2 HB GE_1 GE_2) hb; (try clear hb); (try clear ho_1); obtain ⟨Ao_1, co_1, eo_1⟩ := Kd.R_slice HO_1.out; subst eo_1; obtain ⟨_, _, _, _, _, _⟩ := c3_ BK_2))
      refine bodyPost_ret (results_ct rfl _ _ gb_2 24 #[.slice Ao_1 t_3.length co_1, .bool t_4, .int .i64 t_5] (0, 0) _ rfl (bp_0 BK_2) Try.underlying24 rfl (by kernel_rfl)) rfl ?_
      exact ⟨_, fz_, by refine rq_ ?_; exact rf1_ HO_1 BK_2, bl_2 HB GE_1 GE_2⟩
     rw [if_pos c_3] at H
     obtain ⟨c_4, c_5⟩ := be_ c_3
     clear c_3
     obtain ⟨⟨t_7, t_8, t_9⟩, A_8, H⟩ := ob_ H
     try dsimp only at H
     obtain ⟨⟨t_10, t_11, t_12, t_13⟩, A_10, H⟩ := ob_ H
     try dsimp only at H
     by_cases c_6 : t_13 = true
     rotate_left
     ·replace c_6 := Bool.eq_false_iff.mpr c_6
      subst c_6
      rw [if_neg (show ¬ (false = true) by decide)] at H
      obtain ⟨rfl, rfl, rfl, rfl⟩ := so4_ H
      have := NB_1.out
      have := NB_2.out
      obtain ⟨_, _, _, _, _, _⟩ := c3_ BK_1
      go_wp2_with (first | ((with_reducible refine gk_ 14 ?_); refine gl_ (some 31) Try.func14 #[.agg #[.slice A0_0 l0_0.length c0_0, .bool a0_1, .int .i64 a0_2]] ?_; (with_reducible refine (gafferref02_Copy.calls _ _ _ _ _ _ _ _ _ ?side1 ?side2 A_8.out).mono ?_); (case side1 => exact cl_ (Kd.C_below HR_1.out HB.out)); (case side2 => exact HC_1.out); rintro e w_6 ⟨v_2, rfl, ho_1, hb⟩; refine ⟨_, rfl, ?_⟩; have HO_2 := a_ (Kd.R_lower ho_1 (below_size (bl_2 HB GE_1 GE_2))); replace BK_1 := bB_ BK_1 hb; replace BK_2 := bB_ BK_2 hb; replace HB := hB_ (bl_2 HB GE_1 GE_2) hb; (try clear hb); (try clear ho_1); obtain ⟨Ao_2, co_2, eo_2⟩ := Kd.R_slice HO_2.out; subst eo_2) | ((with_reducible refine gk_ 99 ?_); refine gl_ (some 32) Try.func99 #[.agg #[.slice Ao_2 t_7.length co_2, .bool t_8, .int .i64 t_9]] ?_; (with_reducible refine (gafferref02_burnt.calls (fun k_ => some k_ = (.slice Ao_2 t_7.length co_2 : Value).ownBlock) _ _ _ _ _ _ _ _ w _ ?side1 ?side2 A_10.out).mono ?_); (case side1 => exact hb2_ HB GE_1.out GE_2.out); (case side2 => exact Kd.R_tight rfl HO_2.out); rintro e w_7 ⟨v_3, rfl, ho_1, hb, hkp⟩; refine ⟨_, rfl, ?_⟩; replace BK_1 := kp_ BK_1 hkp HO_2; replace BK_2 := kp_ BK_2 hkp HO_2; have HO_3 := rt_ ho_1; replace HB := a_ (hb); clear HO_2; (try clear hb); (try clear hkp); (try clear ho_1)) | ((with_reducible refine gd_ 8 ?_); refine bz_ 8 #[.slice none 0 0, .bool false, .int .i64 0] 24 ?_; intro gb_3 hg w_8 BK_3 hb; replace HO_3 := rb_ HO_3 hb; have GE_3 := a_ (bs_2 hg HB GE_1 GE_2); replace HB := hB_ (bl_2 HB GE_1 GE_2) hb; have NB_3 := nB_ hg BK_1; have NB_4 := nC_ hg BK_1; replace BK_1 := bB_ BK_1 hb; have NB_5 := nB_ hg BK_2; have NB_6 := nC_ hg BK_2; replace BK_2 := bB_ BK_2 hb; clear hb hg; obtain ⟨Ao_3, co_3, eo_3⟩ := Kd.R_slice HO_3.out; subst eo_3; have := NB_4.out; have := NB_3.out; have := NB_6.out; have := NB_5.out; obtain ⟨_, _, _, _, _, _⟩ := c3_ BK_3; obtain ⟨_, _, _, _, _, _⟩ := c3_ BK_2))
      refine bodyPost_ret (results_ct rfl _ _ gb_2 24 #[.slice Ao_3 t_10.length co_3, .bool t_11, .int .i64 t_12] (0, 0) _ rfl (bp_1 BK_2 NB_5) Try.underlying24 rfl (by kernel_rfl)) rfl ?_
      exact ⟨_, fz_, by refine rq_ ?_; exact rf2_ HO_3 BK_3 BK_2, bl_3 HB GE_1 GE_2 GE_3⟩
     subst c_6
     rw [if_pos rfl] at H
     replace H := ip_ H
     obtain ⟨-, c_8, H⟩ := H
     replace H := ip_ H
     obtain ⟨-, c_10, H⟩ := H
     obtain ⟨⟨t_14, t_15, t_16⟩, A_12, H⟩ := ob_ H
     try dsimp only at H
     obtain ⟨rfl, rfl, rfl, rfl⟩ := so4_ H
     have := NB_1.out
     have := NB_2.out
     obtain ⟨_, _, _, _, _, _⟩ := c3_ BK_1
     go_wp2_with (first | ((with_reducible refine gk_ 14 ?_); refine gl_ (some 31) Try.func14 #[.agg #[.slice A0_0 l0_0.length c0_0, .bool a0_1, .int .i64 a0_2]] ?_; (with_reducible refine (gafferref02_Copy.calls _ _ _ _ _ _ _ _ _ ?side1 ?side2 A_8.out).mono ?_); (case side1 => exact cl_ (Kd.C_below HR_1.out HB.out)); (case side2 => exact HC_1.out); rintro e w_9 ⟨v_2, rfl, ho_1, hb⟩; refine ⟨_, rfl, ?_⟩; have HO_2 := a_ (Kd.R_lower ho_1 (below_size (bl_2 HB GE_1 GE_2))); replace BK_1 := bB_ BK_1 hb; replace BK_2 := bB_ BK_2 hb; replace HB := hB_ (bl_2 HB GE_1 GE_2) hb; (try clear hb); (try clear ho_1); obtain ⟨Ao_4, co_4, eo_4⟩ := Kd.R_slice HO_2.out; subst eo_4) | ((with_reducible refine gk_ 99 ?_); refine gl_ (some 32) Try.func99 #[.agg #[.slice Ao_4 t_7.length co_4, .bool t_8, .int .i64 t_9]] ?_; (with_reducible refine (gafferref02_burnt.calls (fun k_ => some k_ = (.slice Ao_4 t_7.length co_4 : Value).ownBlock) _ _ _ _ _ _ _ _ w _ ?side1 ?side2 A_10.out).mono ?_); (case side1 => exact hb2_ HB GE_1.out GE_2.out); (case side2 => exact Kd.R_tight rfl HO_2.out); rintro e w_10 ⟨v_3, rfl, ho_1, hb, hkp⟩; refine ⟨_, rfl, ?_⟩; replace BK_1 := kp_ BK_1 hkp HO_2; replace BK_2 := kp_ BK_2 hkp HO_2; have HO_3 := rt_ ho_1; replace HB := a_ (hb); clear HO_2; (try clear hb); (try clear hkp); (try clear ho_1)) | ((with_reducible refine gd_ 8 ?_); refine bz_ 8 #[.slice none 0 0, .bool false, .int .i64 0] 24 ?_; intro gb_3 hg w_11 BK_3 hb; replace HO_3 := rb_ HO_3 hb; have GE_3 := a_ (bs_2 hg HB GE_1 GE_2); replace HB := hB_ (bl_2 HB GE_1 GE_2) hb; have NB_3 := nB_ hg BK_1; have NB_4 := nC_ hg BK_1; replace BK_1 := bB_ BK_1 hb; have NB_5 := nB_ hg BK_2; have NB_6 := nC_ hg BK_2; replace BK_2 := bB_ BK_2 hb; clear hb hg; obtain ⟨Ao_5, co_5, eo_5⟩ := Kd.R_slice HO_3.out; subst eo_5; have := NB_4.out; have := NB_3.out; have := NB_6.out; have := NB_5.out; obtain ⟨_, _, _, _, _, _⟩ := c3_ BK_3; have p_1 : 0 ≤ (t_2 : Int) := od_; have q_1 : t_2 < (t_10.length : Int) := od_; obtain ⟨ad_1, e_1, hx_1, hx_2, hx_3⟩ := at_T71 (Kd.R_reads' HO_3.out).2.2 t_2 p_1 q_1; cases e_1; have hn_1 : ad_1.block ≠ gb_3 := Kd.own_blk (Kd.R_ne HO_3.out BK_3.out (by decide)); have hn_2 : ad_1.block ≠ gb_3 := Kd.own_blk (Kd.R_ne HO_3.out BK_3.out (by decide)); have hn_3 : ad_1.block ≠ gb_3 := Kd.own_blk (Kd.R_ne HO_3.out BK_3.out (by decide)); replace hx_1 := (cf_ (p := ⟨gb_3, 0, none⟩) hn_1 (.slice (some ad_1) t_10.length co_5)).trans hx_1; replace hx_2 := (cf_ (p := ⟨gb_3, 0, none⟩) hn_1 (.slice (some ad_1) t_10.length co_5)).trans hx_2; replace hx_3 := (cf_ (p := ⟨gb_3, 0, none⟩) hn_1 (.slice (some ad_1) t_10.length co_5)).trans hx_3; replace hx_1 := (cf_ (p := ⟨gb_3, 1, none⟩) hn_2 (.bool t_11)).trans hx_1; replace hx_2 := (cf_ (p := ⟨gb_3, 1, none⟩) hn_2 (.bool t_11)).trans hx_2; replace hx_3 := (cf_ (p := ⟨gb_3, 1, none⟩) hn_2 (.bool t_11)).trans hx_3; replace hx_1 := (cf_ (p := ⟨gb_3, 2, none⟩) hn_3 (.int .i64 t_12)).trans hx_1; replace hx_2 := (cf_ (p := ⟨gb_3, 2, none⟩) hn_3 (.int .i64 t_12)).trans hx_2; replace hx_3 := (cf_ (p := ⟨gb_3, 2, none⟩) hn_3 (.int .i64 t_12)).trans hx_3; clear hn_1; clear hn_2; clear hn_3; replace p_1 := eq_true p_1; replace q_1 := eq_true q_1) | ((with_reducible refine gd_ 10 ?_); refine bz_ 10 #[.string (⟨#[]⟩ : ByteArray), .string (⟨#[]⟩ : ByteArray), .int .i64 0] 71 ?_; intro gb_4 hg w_12 BK_4 hb; replace HO_3 := a_ (Kd.R_below (Kd.R_elderB (by refine rq_ ?_; exact (rf1_ HO_3 BK_3)) gb_4 (Nat.le_of_eq hg.symm)) hb); have GE_4 := a_ (bs_3 hg HB GE_1 GE_2 GE_3); replace HB := hB_ (bl_3 HB GE_1 GE_2 GE_3) hb; have NB_7 := a_ ((by rw [hg]; exact Nat.ne_of_lt (blk_lt (g := gb_1) (o := .cells #[.slice A0_0 l0_0.length c0_0, .bool a0_1, .int .i64 a0_2] 24 (0, 0)) (bp_1 BK_1 NB_3)) : gb_1 ≠ gb_4)); have NB_8 := a_ ((by rw [hg]; exact Nat.ne_of_gt (blk_lt (g := gb_1) (o := .cells #[.slice A0_0 l0_0.length c0_0, .bool a0_1, .int .i64 a0_2] 24 (0, 0)) (bp_1 BK_1 NB_3)) : gb_4 ≠ gb_1)); replace BK_1 := bw_1 #[.slice A0_0 l0_0.length c0_0, .bool a0_1, .int .i64 a0_2] BK_1 NB_3 hb; have NB_9 := a_ ((by rw [hg]; exact Nat.ne_of_lt (blk_lt (g := gb_2) (o := .cells #[.slice none 0 0, .bool false, .int .i64 0] 24 (0, 0)) (bp_1 BK_2 NB_5)) : gb_2 ≠ gb_4)); have NB_10 := a_ ((by rw [hg]; exact Nat.ne_of_gt (blk_lt (g := gb_2) (o := .cells #[.slice none 0 0, .bool false, .int .i64 0] 24 (0, 0)) (bp_1 BK_2 NB_5)) : gb_4 ≠ gb_2)); replace BK_2 := bw_1 #[.slice none 0 0, .bool false, .int .i64 0] BK_2 NB_5 hb; have NB_11 := a_ ((by rw [hg]; exact Nat.ne_of_lt (blk_lt (g := gb_3) (o := .cells #[.slice (some ad_1) t_10.length co_5, .bool t_11, .int .i64 t_12] 24 (0, 0)) (bp_0 BK_3)) : gb_3 ≠ gb_4)); have NB_12 := a_ ((by rw [hg]; exact Nat.ne_of_gt (blk_lt (g := gb_3) (o := .cells #[.slice (some ad_1) t_10.length co_5, .bool t_11, .int .i64 t_12] 24 (0, 0)) (bp_0 BK_3)) : gb_4 ≠ gb_3)); replace BK_3 := bw_0 #[.slice (some ad_1) t_10.length co_5, .bool t_11, .int .i64 t_12] BK_3 hb; clear hb hg; have := NB_8.out; have := NB_7.out; have := NB_10.out; have := NB_9.out; have := NB_12.out; have := NB_11.out; obtain ⟨_, _, _, _, _, _⟩ := c3_ BK_4; obtain ⟨_, _, _, _, _, _⟩ := c3_ BK_3) | ((with_reducible refine gk_ 102 ?_); refine gl_ (some 49) Try.func102 #[.agg #[.slice (some ad_1) t_10.length co_5, .bool t_11, .int .i64 t_12], .agg #[.string ((rd_T71 t_10 t_2).f0), .string ((rd_T71 t_10 t_2).f1), .int .i64 (((rd_T71 t_10 t_2).f1).size : Int)]] ?_; (with_reducible refine (gafferref02_with.calls _ _ _ _ _ _ _ _ _ _ _ _ _ ?side1 ?side2 A_12.out).mono ?_); (case side1 => refine (Kd.R_reads' (e := 71) (base := w.heap.size) (ok := fun k_ => (True ∧ k_ ≠ gb_4)) (n := t_10.length) (c := co_5) ?_).2.2; exact (by refine rq_ ?_; exact (Kd.R_mono (Kd.R_far (p := ⟨gb_4, 2, none⟩) (Kd.R_far (p := ⟨gb_4, 2, none⟩) (Kd.R_far (p := ⟨gb_4, 1, none⟩) (Kd.R_far (p := ⟨gb_4, 0, none⟩) (Kd.R_mono HO_3.out (fun k_ hk => (⟨hk, hk.2⟩ : _ ∧ k_ ≠ gb_4))) (fun _ hk => hk.2) (.string ((rd_T71 t_10 t_2).f0))) (fun _ hk => hk.2) (.string ((rd_T71 t_10 t_2).f1))) (fun _ hk => hk.2) (.int .i64 ((rd_T71 t_10 t_2).f2))) (fun _ hk => hk.2) (.int .i64 (((rd_T71 t_10 t_2).f1).size : Int))) (fun _ h_ => h_.1)))); (case side2 => exact (Kd.R_reads' HO_3.out).2.1); rintro e w_13 ⟨v_4, rfl, ho_1, hb⟩; refine ⟨_, rfl, ?_⟩; have HO_4 := a_ (Kd.R_lower (Kd.R_newB (Kd.R_new' ho_1 (Kd.R_lt (by refine rq_ ?_; exact (Kd.R_mono (Kd.R_far (p := ⟨gb_4, 2, none⟩) (Kd.R_far (p := ⟨gb_4, 2, none⟩) (Kd.R_far (p := ⟨gb_4, 1, none⟩) (Kd.R_far (p := ⟨gb_4, 0, none⟩) (Kd.R_mono HO_3.out (fun k_ hk => (⟨hk, hk.2⟩ : _ ∧ k_ ≠ gb_4))) (fun _ hk => hk.2) (.string ((rd_T71 t_10 t_2).f0))) (fun _ hk => hk.2) (.string ((rd_T71 t_10 t_2).f1))) (fun _ hk => hk.2) (.int .i64 ((rd_T71 t_10 t_2).f2))) (fun _ hk => hk.2) (.int .i64 (((rd_T71 t_10 t_2).f1).size : Int))) (fun _ h_ => h_.1))))) (g := gb_4) (o := .cells #[.string ((rd_T71 t_10 t_2).f0), .string ((rd_T71 t_10 t_2).f1), .int .i64 (((rd_T71 t_10 t_2).f1).size : Int)] 71 (0, 0)) (bp_0 BK_4)) (below_size (bl_4 HB GE_1 GE_2 GE_3 GE_4))); replace HO_3 := a_ (Kd.R_elder' (by refine rq_ ?_; exact (Kd.R_mono (Kd.R_far (p := ⟨gb_4, 2, none⟩) (Kd.R_far (p := ⟨gb_4, 2, none⟩) (Kd.R_far (p := ⟨gb_4, 1, none⟩) (Kd.R_far (p := ⟨gb_4, 0, none⟩) (Kd.R_mono HO_3.out (fun k_ hk => (⟨hk, hk.2⟩ : _ ∧ k_ ≠ gb_4))) (fun _ hk => hk.2) (.string ((rd_T71 t_10 t_2).f0))) (fun _ hk => hk.2) (.string ((rd_T71 t_10 t_2).f1))) (fun _ hk => hk.2) (.int .i64 ((rd_T71 t_10 t_2).f2))) (fun _ hk => hk.2) (.int .i64 (((rd_T71 t_10 t_2).f1).size : Int))) (fun _ h_ => h_.1))) (Kd.R_base ho_1) hb); replace BK_1 := bw_1 #[.slice A0_0 l0_0.length c0_0, .bool a0_1, .int .i64 a0_2] BK_1 NB_7 hb; replace BK_2 := bw_1 #[.slice none 0 0, .bool false, .int .i64 0] BK_2 NB_9 hb; replace BK_3 := bw_1 #[.slice (some ad_1) t_10.length co_5, .bool t_11, .int .i64 t_12] BK_3 NB_11 hb; replace BK_4 := bw_0 #[.string ((rd_T71 t_10 t_2).f0), .string ((rd_T71 t_10 t_2).f1), .int .i64 (((rd_T71 t_10 t_2).f1).size : Int)] BK_4 hb; replace HB := hB_ (bl_4 HB GE_1 GE_2 GE_3 GE_4) hb; (try clear hb); (try clear ho_1); obtain ⟨Ao_6, co_6, eo_6⟩ := Kd.R_slice HO_4.out; subst eo_6; obtain ⟨_, _, _, _, _, _⟩ := c3_ BK_2))
     refine bodyPost_ret (results_ct rfl _ _ gb_2 24 #[.slice Ao_6 t_14.length co_6, .bool t_15, .int .i64 t_16] (0, 0) _ rfl (bp_0 BK_2) Try.underlying24 rfl (by kernel_rfl)) rfl ?_
     exact ⟨_, fz_, by refine rq_ ?_; exact rf1_ HO_4 BK_2, bl_4 HB GE_1 GE_2 GE_3 GE_4⟩
mutual
def gafferref02_Swap.j0 : Nat → ByteArray → ByteArray → Int → Int → Bool → List (S71) → Bool → Int → Option ((List (S71)) × Bool × Int × Int)
 | 0, _, _, _, _, _, _, _, _ => none
 | k + 1, x1, x2, x8, x9, x23, x589000, x589001, x589002 => if x23 = true then (gafferref02_Swap.j1 k x1 x2 6 x9 x589000 x589001 x589002) else (gafferref02_Swap.j1 k x1 x2 x8 x9 x589000 x589001 x589002)
def gafferref02_Swap.j1 : Nat → ByteArray → ByteArray → Int → Int → List (S71) → Bool → Int → Option ((List (S71)) × Bool × Int × Int)
 | 0, _, _, _, _, _, _, _ => none
 | k + 1, x1, x2, x8, x9, x589000, x589001, x589002 => if x8 = 0 then (if 0 ≤ x9 then (if x9 < (x589000.length : Int) then (gafferref02_Swap.j2 k x1 x2 x8 x9 (decide (((rd_T71 x589000 x9).f2) < (((rd_T71 x589000 x9).f1).size : Int))) x589000 x589001 x589002) else (none)) else (none)) else (gafferref02_Swap.j2 k x1 x2 x8 x9 false x589000 x589001 x589002)
def gafferref02_Swap.j2 : Nat → ByteArray → ByteArray → Int → Int → Bool → List (S71) → Bool → Int → Option ((List (S71)) × Bool × Int × Int)
 | 0, _, _, _, _, _, _, _, _ => none
 | k + 1, x1, x2, x8, x9, x41, x589000, x589001, x589002 => if x41 = true then (gafferref02_Swap.j3 k x1 x2 9 x9 x589000 x589001 x589002) else (gafferref02_Swap.j3 k x1 x2 x8 x9 x589000 x589001 x589002)
def gafferref02_Swap.j3 : Nat → ByteArray → ByteArray → Int → Int → List (S71) → Bool → Int → Option ((List (S71)) × Bool × Int × Int)
 | 0, _, _, _, _, _, _, _ => none
 | k + 1, x1, x2, x8, x9, x589000, x589001, x589002 => if x8 = 0 then ((gafferref02_name.f x2).bind fun t594 => (gafferref02_Swap.j4 k x1 x2 x8 x9 (!t594) x589000 x589001 x589002)) else (gafferref02_Swap.j4 k x1 x2 x8 x9 false x589000 x589001 x589002)
def gafferref02_Swap.j4 : Nat → ByteArray → ByteArray → Int → Int → Bool → List (S71) → Bool → Int → Option ((List (S71)) × Bool × Int × Int)
 | 0, _, _, _, _, _, _, _, _ => none
 | k + 1, x1, x2, x8, x9, x48, x589000, x589001, x589002 => if x48 = true then (gafferref02_Swap.j5 k x1 x2 5 x9 x589000 x589001 x589002) else (gafferref02_Swap.j5 k x1 x2 x8 x9 x589000 x589001 x589002)
def gafferref02_Swap.j5 : Nat → ByteArray → ByteArray → Int → Int → List (S71) → Bool → Int → Option ((List (S71)) × Bool × Int × Int)
 | 0, _, _, _, _, _, _, _ => none
 | k + 1, x1, x2, x8, x9, x589000, x589001, x589002 => if x8 = 0 then ((gafferref02_Copy.f x589000 x589001 x589002).bind fun bt601 => ((gafferref02_burnt.f bt601.1 bt601.2.1 bt601.2.2).bind fun bt606 => (if bt606.2.2.2 = true then (if 0 ≤ x9 then (if x9 < (bt606.1.length : Int) then ((gafferref02_without.f k bt606.1 bt606.2.1 bt606.2.2.1 x1).bind fun bt615 => ((gafferref02_with.f k bt615.1 bt615.2.1 bt615.2.2 x2 ((rd_T71 bt606.1 x9).f1) ((rd_T71 bt606.1 x9).f2)).bind fun bt620 => (some (bt620.1, bt620.2.1, bt620.2.2, 0)))) else (none)) else (none)) else (some (bt606.1, bt606.2.1, bt606.2.2.1, 8))))) else ((gafferref02_bad.f x589000 x589001 x589002 x8).bind fun bt595 => (some (bt595.1, bt595.2.1, bt595.2.2.1, bt595.2.2.2)))
end
def gafferref02_Swap.f (k : Nat) (l0_0 : List (S71)) (a0_1 : Bool) (a0_2 : Int) (a1 : ByteArray) (a2 : ByteArray) : Option ((List (S71)) × Bool × Int × Int) := (gafferref02_ready.f k l0_0 a0_1 a0_2).bind fun t590 => ((gafferref02_find.f k l0_0 a0_1 a0_2 a1).bind fun t591 => (if t590 = 0 then (gafferref02_Swap.j0 k a1 a2 t590 t591 (decide (t591 < 0)) l0_0 a0_1 a0_2) else (gafferref02_Swap.j0 k a1 a2 t590 t591 false l0_0 a0_1 a0_2)))
theorem gafferref02_Swap.mono_l : ∀ k, (∀ y0 y1 y2 y3 y4 y5 y6 y7, LeO (gafferref02_Swap.j0 k y0 y1 y2 y3 y4 y5 y6 y7) (gafferref02_Swap.j0 (k + 1) y0 y1 y2 y3 y4 y5 y6 y7)) ∧ (∀ y0 y1 y2 y3 y4 y5 y6, LeO (gafferref02_Swap.j1 k y0 y1 y2 y3 y4 y5 y6) (gafferref02_Swap.j1 (k + 1) y0 y1 y2 y3 y4 y5 y6)) ∧ (∀ y0 y1 y2 y3 y4 y5 y6 y7, LeO (gafferref02_Swap.j2 k y0 y1 y2 y3 y4 y5 y6 y7) (gafferref02_Swap.j2 (k + 1) y0 y1 y2 y3 y4 y5 y6 y7)) ∧ (∀ y0 y1 y2 y3 y4 y5 y6, LeO (gafferref02_Swap.j3 k y0 y1 y2 y3 y4 y5 y6) (gafferref02_Swap.j3 (k + 1) y0 y1 y2 y3 y4 y5 y6)) ∧ (∀ y0 y1 y2 y3 y4 y5 y6 y7, LeO (gafferref02_Swap.j4 k y0 y1 y2 y3 y4 y5 y6 y7) (gafferref02_Swap.j4 (k + 1) y0 y1 y2 y3 y4 y5 y6 y7)) ∧ (∀ y0 y1 y2 y3 y4 y5 y6, LeO (gafferref02_Swap.j5 k y0 y1 y2 y3 y4 y5 y6) (gafferref02_Swap.j5 (k + 1) y0 y1 y2 y3 y4 y5 y6))
 | 0 => ⟨fun _ _ _ _ _ _ _ _ r h => by simp [gafferref02_Swap.j0] at h, fun _ _ _ _ _ _ _ r h => by simp [gafferref02_Swap.j1] at h, fun _ _ _ _ _ _ _ _ r h => by simp [gafferref02_Swap.j2] at h, fun _ _ _ _ _ _ _ r h => by simp [gafferref02_Swap.j3] at h, fun _ _ _ _ _ _ _ _ r h => by simp [gafferref02_Swap.j4] at h, fun _ _ _ _ _ _ _ r h => by simp [gafferref02_Swap.j5] at h⟩
 | k + 1 => by
  obtain ⟨ih0, ih1, ih2, ih3, ih4, ih5⟩ := gafferref02_Swap.mono_l k
  refine ⟨?_, ?_, ?_, ?_, ?_, ?_⟩
  ·intro y0 y1 y2 y3 y4 y5 y6 y7
   unfold gafferref02_Swap.j0
   repeat' with_reducible first | apply ih0 | apply ih1 | apply ih2 | apply ih3 | apply ih4 | apply ih5 | apply gafferref02_find.mono | apply gafferref02_ready.mono | apply gafferref02_with.mono | apply gafferref02_without.mono | apply LeO.refl | apply LeO.none | apply LeO.ite | refine LeO.bind ?_ (fun _ => ?_)
  ·intro y0 y1 y2 y3 y4 y5 y6
   unfold gafferref02_Swap.j1
   repeat' with_reducible first | apply ih0 | apply ih1 | apply ih2 | apply ih3 | apply ih4 | apply ih5 | apply gafferref02_find.mono | apply gafferref02_ready.mono | apply gafferref02_with.mono | apply gafferref02_without.mono | apply LeO.refl | apply LeO.none | apply LeO.ite | refine LeO.bind ?_ (fun _ => ?_)
  ·intro y0 y1 y2 y3 y4 y5 y6 y7
   unfold gafferref02_Swap.j2
   repeat' with_reducible first | apply ih0 | apply ih1 | apply ih2 | apply ih3 | apply ih4 | apply ih5 | apply gafferref02_find.mono | apply gafferref02_ready.mono | apply gafferref02_with.mono | apply gafferref02_without.mono | apply LeO.refl | apply LeO.none | apply LeO.ite | refine LeO.bind ?_ (fun _ => ?_)
  ·intro y0 y1 y2 y3 y4 y5 y6
   unfold gafferref02_Swap.j3
   repeat' with_reducible first | apply ih0 | apply ih1 | apply ih2 | apply ih3 | apply ih4 | apply ih5 | apply gafferref02_find.mono | apply gafferref02_ready.mono | apply gafferref02_with.mono | apply gafferref02_without.mono | apply LeO.refl | apply LeO.none | apply LeO.ite | refine LeO.bind ?_ (fun _ => ?_)
  ·intro y0 y1 y2 y3 y4 y5 y6 y7
   unfold gafferref02_Swap.j4
   repeat' with_reducible first | apply ih0 | apply ih1 | apply ih2 | apply ih3 | apply ih4 | apply ih5 | apply gafferref02_find.mono | apply gafferref02_ready.mono | apply gafferref02_with.mono | apply gafferref02_without.mono | apply LeO.refl | apply LeO.none | apply LeO.ite | refine LeO.bind ?_ (fun _ => ?_)
  ·intro y0 y1 y2 y3 y4 y5 y6
   unfold gafferref02_Swap.j5
   repeat' with_reducible first | apply ih0 | apply ih1 | apply ih2 | apply ih3 | apply ih4 | apply ih5 | apply gafferref02_find.mono | apply gafferref02_ready.mono | apply gafferref02_with.mono | apply gafferref02_without.mono | apply LeO.refl | apply LeO.none | apply LeO.ite | refine LeO.bind ?_ (fun _ => ?_)
theorem gafferref02_Swap.mono : ∀ a0 a1 a2 a3 a4 k, LeO (gafferref02_Swap.f k a0 a1 a2 a3 a4) (gafferref02_Swap.f (k + 1) a0 a1 a2 a3 a4) := by
 intro a0 a1 a2 a3 a4 k
 obtain ⟨ih0, ih1, ih2, ih3, ih4, ih5⟩ := gafferref02_Swap.mono_l k
 unfold gafferref02_Swap.f
 repeat' with_reducible first | apply ih0 | apply ih1 | apply ih2 | apply ih3 | apply ih4 | apply ih5 | apply gafferref02_find.mono | apply gafferref02_ready.mono | apply gafferref02_with.mono | apply gafferref02_without.mono | apply LeO.refl | apply LeO.none | apply LeO.ite | refine LeO.bind ?_ (fun _ => ?_)
def gafferref02_Swap.T5 : Bool × List (List Nat × List Nat) := (true, [([], []), ([0], [0]), ([1], [1]), ([2], [2]), ([3, 2], [2, 3]), ([2], [2]), ([4, 5, 2], [2, 4, 5]), ([6, 2], [2, 6]), ([7, 2], [2, 7]), ([2], [2]), ([9, 2], [2, 9]), ([2], [2]), ([10, 11, 2], [2, 10, 11]), ([12, 2], [2, 12]), ([13, 2], [2, 13]), ([14, 2], [2, 14]), ([8, 15, 2], [2, 8, 15]), ([2, 16], [2, 16])])
def gafferref02_Swap.B5 : List Nat := [0, 1, 3, 7, 15, 7, 63, 127, 255, 7, 519, 7, 3591, 7687, 15879, 32263, 65535, 131071]
theorem gafferref02_Swap.tab5 : rtab .any (opsOf Try.f78 5) = gafferref02_Swap.T5 := by kernel_rfl
theorem gafferref02_Swap.bits5 : waitsOk gafferref02_Swap.T5.2 gafferref02_Swap.B5 = true := by kernel_rfl
theorem gafferref02_Swap.calls (k : Nat) (A0_0 : Option Addr) (c0_0 : Nat) (l0_0 : List (S71)) (a0_1 : Bool) (a0_2 : Int) (a1 : ByteArray) (a2 : ByteArray) (r1 : List (S71)) (r2 : Bool) (r3 : Int) (r4 : Int) (w : World) (hr0_0 : Kd.C k71 w A0_0 l0_0.length l0_0) (hc0_0 : l0_0.length ≤ c0_0) (h : gafferref02_Swap.f k l0_0 a0_1 a0_2 a1 a2 = some (r1, r2, r3, r4)) :
  Calls Try.prog 78 #[.agg #[.slice A0_0 l0_0.length c0_0, .bool a0_1, .int .i64 a0_2], .string a1, .string a2] w fun e w' => ∃ v0_ : Value, e = .returned (.tuple #[.agg #[v0_, .bool r2, .int .i64 r3], .int .i64 r4]) ∧ Kd.R k71 71 w' w.heap.size (fun _ => True) v0_ r1 ∧ Below w.heap.size w w' := by
 have hu_1 := Try.underlying24
 have hu_2 := Try.underlying71
 have HR_1 := a_ hr0_0
 have HC_1 := a_ hc0_0
 clear hr0_0 hc0_0
 have HB := a_ (Below.refl w.heap.size w)
 have H := h
 unfold gafferref02_Swap.f at H
 clear h
 obtain ⟨t_1, A_2, H⟩ := ob_ H
 try dsimp only at H
 obtain ⟨t_2, A_4, H⟩ := ob_ H
 try dsimp only at H
 have HC_2 := a_ H
 clear H
 go_enter Try.func78, Try.ntmps78
 go_upto_region 3 with (first | ((with_reducible refine gd_ 3 ?_); (try (refine gate_guard (by rfl) ?_; dsimp only)); refine bz_ 3 #[.slice A0_0 l0_0.length c0_0, .bool a0_1, .int .i64 a0_2] 24 ?_; intro gb_1 hg w_1 BK_1 hb; have GE_1 := a_ (bs_0 hg HB); replace HB := hB_ (bl_ HB) hb; clear hb hg) | ((with_reducible refine gd_ 6 ?_); (try (refine gate_guard (by rfl) ?_; dsimp only)); refine bz_ 6 #[.slice none 0 0, .bool false, .int .i64 0] 24 ?_; intro gb_2 hg w_2 BK_2 hb; have GE_2 := a_ (bs_1 hg HB GE_1); replace HB := hB_ (bl_1 HB GE_1) hb; have NB_1 := nB_ hg BK_1; have NB_2 := nC_ hg BK_1; replace BK_1 := bB_ BK_1 hb; clear hb hg; have := NB_1.out; have := NB_2.out; obtain ⟨_, _, _, _, _, _⟩ := c3_ BK_1) | ((with_reducible refine gk_ 97 ?_); refine gl_ (some 14) Try.func97 #[.agg #[.slice A0_0 l0_0.length c0_0, .bool a0_1, .int .i64 a0_2]] ?_; (with_reducible refine (gafferref02_ready.calls _ _ _ _ _ _ _ _ ?side1 ?side2 A_2.out).mono ?_); (case side1 => exact cl_ (Kd.C_below HR_1.out HB.out)); (case side2 => exact HC_1.out); rintro e w_3 ⟨rfl, hb⟩; refine ⟨_, rfl, ?_⟩; replace BK_1 := bB_ BK_1 hb; replace BK_2 := bB_ BK_2 hb; replace HB := hB_ (bl_2 HB GE_1 GE_2) hb; (try clear hb); obtain ⟨_, _, _, _, _, _⟩ := c3_ BK_1) | ((with_reducible refine gk_ 64 ?_); refine gl_ (some 17) Try.func64 #[.agg #[.slice A0_0 l0_0.length c0_0, .bool a0_1, .int .i64 a0_2], .string a1] ?_; (with_reducible refine (gafferref02_find.calls _ _ _ _ _ _ _ _ _ ?side1 ?side2 A_4.out).mono ?_); (case side1 => exact cl_ (Kd.C_below HR_1.out HB.out)); (case side2 => exact HC_1.out); rintro e w_4 ⟨rfl, hb⟩; refine ⟨_, rfl, ?_⟩; replace BK_1 := bB_ BK_1 hb; replace BK_2 := bB_ BK_2 hb; replace HB := hB_ (bl_2 HB GE_1 GE_2) hb; (try clear hb)))
 (try simp only [Act.put, List.setIfInBounds_toArray, List.set_cons_zero, List.set_cons_succ])
 go_cut [23] (fun v23 wc => ∃ (kq : Nat) (x23_5 : Bool), v23 = .bool x23_5 ∧ Aside0 (gafferref02_Swap.j0 kq a1 a2 t_1 t_2 x23_5 l0_0 a0_1 a0_2 = some (r1, r2, r3, r4)) ∧ Aside0 (kq ≤ k) ∧ Aside0 (wc.heap[gb_1]? = some (.cells #[(.slice A0_0 l0_0.length c0_0), .bool a0_1, .int .i64 a0_2] 24 (0, 0))) ∧ Aside0 (wc.heap[gb_2]? = some (.cells #[(.slice none 0 0), .bool false, .int .i64 0] 24 (0, 0))) ∧ Aside0 (Below w.heap.size w wc))
 case first =>
  have H := HC_2.out
  clear HC_2
  by_cases c_1 : t_1 = 0
  rotate_left
  focus
   rw [if_neg c_1] at H
   obtain ⟨c_2, c_3⟩ := bn_ c_1
   (first | rw [c_2] | (simp only [i64_w, i32_w]; rw [c_2]) | skip)
   have H' := a_ H
   clear H
   have L0_ := trivial
  rotate_left
  rw [if_pos c_1] at H
  obtain ⟨c_2, c_3⟩ := be_ c_1
  clear c_1
  (first | rw [c_2] | (simp only [i64_w, i32_w]; rw [c_2]) | skip)
  have H' := a_ H
  clear H
  have L1_ := trivial
  all_goals
   go_wp2
   go_meet
   first
   | (have _ := L0_
      case rel => exact ⟨_, (false), fz_, H', ⟨by first | omega | exact Nat.le_refl _⟩, ⟨bk_ BK_1⟩, ⟨bk_ BK_2⟩, ⟨bl_2 HB GE_1 GE_2⟩⟩)
   | (have _ := L1_
      case rel => exact ⟨_, (decide (t_2 < 0)), fz_, H', ⟨by first | omega | exact Nat.le_refl _⟩, ⟨bk_ BK_1⟩, ⟨bk_ BK_2⟩, ⟨bl_2 HB GE_1 GE_2⟩⟩)
 case rest =>
  clear HC_2
  obtain ⟨kq, x_1, rfl, HA, HJ_1, BK_1, BK_2, HB⟩ := hcut
  cases kq with
  | zero => exact absurd HA.out (by simp [gafferref02_Swap.j0])
  | succ kj5 =>
   have H := HA.out
   clear HA
   simp only [gafferref02_Swap.j0] at H
   have HC_3 := a_ H
   clear H
   go_upto_if 23 with (fail)
   go_cut [8] (fun v8 wc => ∃ (kq : Nat) (x8_14 : Int), v8 = .int .i64 x8_14 ∧ Aside0 (gafferref02_Swap.j1 kq a1 a2 x8_14 t_2 l0_0 a0_1 a0_2 = some (r1, r2, r3, r4)) ∧ Aside0 (kq ≤ kj5) ∧ Aside0 (wc.heap[gb_1]? = some (.cells #[(.slice A0_0 l0_0.length c0_0), .bool a0_1, .int .i64 a0_2] 24 (0, 0))) ∧ Aside0 (wc.heap[gb_2]? = some (.cells #[(.slice none 0 0), .bool false, .int .i64 0] 24 (0, 0))) ∧ Aside0 (Below w.heap.size w wc))
   case first =>
    have H := HC_3.out
    clear HC_3
    by_cases c_2 : x_1 = true
    ·subst c_2
     rw [if_pos rfl] at H
     have H' := a_ H
     clear H
     go_wp2
     go_meet
     case rel => exact ⟨_, (6), fz_, H', ⟨by have := HJ_1.out; first | omega | exact Nat.le_refl _⟩, ⟨bk_ BK_1⟩, ⟨bk_ BK_2⟩, ⟨bl_2 HB GE_1 GE_2⟩⟩
    replace c_2 := Bool.eq_false_iff.mpr c_2
    subst c_2
    rw [if_neg (show ¬ (false = true) by decide)] at H
    have H' := a_ H
    clear H
    go_wp2
    go_meet
    case rel => exact ⟨_, (t_1), fz_, H', ⟨by have := HJ_1.out; first | omega | exact Nat.le_refl _⟩, ⟨bk_ BK_1⟩, ⟨bk_ BK_2⟩, ⟨bl_2 HB GE_1 GE_2⟩⟩
   case rest =>
    clear HC_3
    obtain ⟨kq, x_2, rfl, HA, HJ_2, BK_1, BK_2, HB⟩ := hcut
    cases kq with
    | zero => exact absurd HA.out (by simp [gafferref02_Swap.j1])
    | succ kj14 =>
     have H := HA.out
     clear HA
     simp only [gafferref02_Swap.j1] at H
     have HC_4 := a_ H
     clear H
     go_upto_region 5 with (fail)
     go_cut [41] (fun v41 wc => ∃ (kq : Nat) (x41_16 : Bool), v41 = .bool x41_16 ∧ Aside0 (gafferref02_Swap.j2 kq a1 a2 x_2 t_2 x41_16 l0_0 a0_1 a0_2 = some (r1, r2, r3, r4)) ∧ Aside0 (kq ≤ kj14) ∧ Aside0 (wc.heap[gb_1]? = some (.cells #[(.slice A0_0 l0_0.length c0_0), .bool a0_1, .int .i64 a0_2] 24 (0, 0))) ∧ Aside0 (wc.heap[gb_2]? = some (.cells #[(.slice none 0 0), .bool false, .int .i64 0] 24 (0, 0))) ∧ Aside0 (Below w.heap.size w wc))
     case first =>
      have H := HC_4.out
      clear HC_4
      by_cases c_3 : x_2 = 0
      rotate_left
      ·rw [if_neg c_3] at H
       obtain ⟨c_4, c_5⟩ := bn_ c_3
       (first | rw [c_4] | (simp only [i64_w, i32_w]; rw [c_4]) | skip)
       have H' := a_ H
       clear H
       try go_wp2
       replace BK_1 := a_ (blk_drew BK_1.out)
       replace BK_2 := a_ (blk_drew BK_2.out)
       replace HB := a_ (below_drew1 HB.out)
       refine start_ (n := 18) (S := fun w' => True) (ds := []) #[false, false, false, false, false, false, false, false, false, false, false, false, false, false, false, false, false, false] (by kernel_rfl) rfl rfl trivial (fun hHeld => ?_); refine with_tabW gafferref02_Swap.tab5 gafferref02_Swap.bits5 (fun HT_ HW_ => ?_)
       generalize wc.drew = w_5 at BK_1 BK_2 HB hHeld ⊢
       refine pu_ HT_ 0 (some 24) ?_
       refine pu_ HT_ 1 (some 25) ?_
       refine pu_ HT_ 2 (some 26) ?_
       refine pv_ HT_ 3 (some 27) ?_
       refine pv_ HT_ 4 (some 28) ?_
       refine pv_ HT_ 5 (some 29) ?_
       refine pv_ HT_ 6 (some 30) ?_
       refine pv_ HT_ 7 (some 31) ?_
       refine pv_ HT_ 8 (some 32) ?_
       refine pv_ HT_ 9 (some 33) ?_
       refine pv_ HT_ 10 (some 34) ?_
       refine pv_ HT_ 11 (some 35) ?_
       refine pv_ HT_ 12 (some 36) ?_
       refine pv_ HT_ 13 (some 37) ?_
       refine pv_ HT_ 14 (some 38) ?_
       refine pv_ HT_ 15 (some 39) ?_
       refine pv_ HT_ 16 (some 40) ?_
       refine pu_ HT_ 17 (some 41) ?_
       refine done_ (done_of HT_.out (by kernel_rfl)) ?_
       try go_wp2
       go_meet
       case rel => exact ⟨_, (false), fz_, H', ⟨by have := HJ_1.out; have := HJ_2.out; first | omega | exact Nat.le_refl _⟩, ⟨bk_ BK_1⟩, ⟨bk_ BK_2⟩, ⟨bl_2 HB GE_1 GE_2⟩⟩
      rw [if_pos c_3] at H
      obtain ⟨c_4, c_5⟩ := be_ c_3
      clear c_3
      (first | rw [c_4] | (simp only [i64_w, i32_w]; rw [c_4]) | skip)
      replace H := ip_ H
      obtain ⟨-, c_7, H⟩ := H
      replace H := ip_ H
      obtain ⟨-, c_9, H⟩ := H
      have H' := a_ H
      clear H
      try go_wp2
      replace BK_1 := a_ (blk_drew BK_1.out)
      replace BK_2 := a_ (blk_drew BK_2.out)
      replace HB := a_ (below_drew1 HB.out)
      have p_1 : 0 ≤ (t_2 : Int) := od_
      have q_1 : t_2 < (l0_0.length : Int) := od_
      obtain ⟨ad_1, e_1, hx_1, hx_2, hx_3⟩ := at_T71 HR_1.out t_2 p_1 q_1
      have hw_1 := hx_3
      have hw_2 := hx_2
      have hw_3 := hx_1
      cases e_1
      replace hx_1 := hc_ HB hx_1
      replace hx_2 := hc_ HB hx_2
      replace hx_3 := hc_ HB hx_3
      replace p_1 := eq_true p_1
      replace q_1 := eq_true q_1
      have p_2 : 0 ≤ (t_2 : Int) := od_
      have q_2 : t_2 < (l0_0.length : Int) := od_
      obtain ⟨ad_2, e_2, hx_4, hx_5, hx_6⟩ := at_T71 HR_1.out t_2 p_2 q_2
      have hw_4 := hx_6
      have hw_5 := hx_5
      have hw_6 := hx_4
      obtain rfl : ad_1 = ad_2 := (by injection e_2)
      replace hx_4 := hc_ HB hx_4
      replace hx_5 := hc_ HB hx_5
      replace hx_6 := hc_ HB hx_6
      replace p_2 := eq_true p_2
      replace q_2 := eq_true q_2
      refine start_ (n := 18) (S := fun w' => w'.cell? ⟨gb_1, 0, none⟩ = some (.slice (some ad_1) l0_0.length c0_0) ∧ w'.cell? ⟨gb_1, 1, none⟩ = some (.bool a0_1) ∧ w'.cell? ⟨gb_1, 2, none⟩ = some (.int .i64 a0_2) ∧ w'.cell? (ad_1.add ((t_2).toNat * 3)) = some (.string ((rd_T71 l0_0 t_2).f0)) ∧ w'.cell? ⟨(ad_1.add ((t_2).toNat * 3)).block, (ad_1.add ((t_2).toNat * 3)).off + 1, none⟩ = some (.string ((rd_T71 l0_0 t_2).f1)) ∧ w'.cell? ⟨(ad_1.add ((t_2).toNat * 3)).block, (ad_1.add ((t_2).toNat * 3)).off + 2, none⟩ = some (.int .i64 ((rd_T71 l0_0 t_2).f2)) ∧ w'.cell? (ad_1.add ((t_2).toNat * 3)) = some (.string ((rd_T71 l0_0 t_2).f0)) ∧ w'.cell? ⟨(ad_1.add ((t_2).toNat * 3)).block, (ad_1.add ((t_2).toNat * 3)).off + 1, none⟩ = some (.string ((rd_T71 l0_0 t_2).f1)) ∧ w'.cell? ⟨(ad_1.add ((t_2).toNat * 3)).block, (ad_1.add ((t_2).toNat * 3)).off + 2, none⟩ = some (.int .i64 ((rd_T71 l0_0 t_2).f2))) (ds := []) #[false, false, false, false, false, false, false, false, false, false, false, false, false, false, false, false, false, false] (by kernel_rfl) rfl rfl ⟨(blk_cell BK_1.out 0).trans rfl, (blk_cell BK_1.out 1).trans rfl, (blk_cell BK_1.out 2).trans rfl, ((HB.out.cell (World.block_lt_of_cell? w _ hw_3)).trans hw_3), ((HB.out.cell (World.block_lt_of_cell? w _ hw_2)).trans hw_2), ((HB.out.cell (World.block_lt_of_cell? w _ hw_1)).trans hw_1), ((HB.out.cell (World.block_lt_of_cell? w _ hw_6)).trans hw_6), ((HB.out.cell (World.block_lt_of_cell? w _ hw_5)).trans hw_5), ((HB.out.cell (World.block_lt_of_cell? w _ hw_4)).trans hw_4)⟩ (fun hHeld => ?_); refine with_tabW gafferref02_Swap.tab5 gafferref02_Swap.bits5 (fun HT_ HW_ => ?_)
      generalize wc.drew = w_6 at BK_1 BK_2 HB hx_1 hx_2 hx_3 hx_4 hx_5 hx_6 hHeld ⊢
      refine pu_ HT_ 0 (some 24) ?_
      refine pu_ HT_ 1 (some 25) ?_
      refine pu_ HT_ 2 (some 26) ?_
      refine pu_ HT_ 3 (some 27) ?_
      refine pu_ HT_ 5 (some 29) ?_
      refine pu_ HT_ 9 (some 33) ?_
      refine pu_ HT_ 11 (some 35) ?_
      refine ty_ HT_ HW_ 4 (some 28) hHeld ?_
      refine pu_ HT_ 6 (some 30) ?_
      refine pu_ HT_ 7 (some 31) ?_
      refine ty_ HT_ HW_ 8 (some 32) hHeld ?_
      refine ty_ HT_ HW_ 10 (some 34) hHeld ?_
      refine pu_ HT_ 12 (some 36) ?_
      refine pu_ HT_ 13 (some 37) ?_
      refine ty_ HT_ HW_ 14 (some 38) hHeld ?_
      refine pu_ HT_ 15 (some 39) ?_
      refine pu_ HT_ 16 (some 40) ?_
      refine pu_ HT_ 17 (some 41) ?_
      refine done_ (done_of HT_.out (by kernel_rfl)) ?_
      try go_wp2
      go_meet
      case rel => exact ⟨_, (decide (((rd_T71 l0_0 t_2).f2) < (((rd_T71 l0_0 t_2).f1).size : Int))), fz_, H', ⟨by have := HJ_1.out; have := HJ_2.out; first | omega | exact Nat.le_refl _⟩, ⟨bk_ BK_1⟩, ⟨bk_ BK_2⟩, ⟨bl_2 HB GE_1 GE_2⟩⟩
     case rest =>
      clear HC_4
      obtain ⟨kq, x_3, rfl, HA, HJ_3, BK_1, BK_2, HB⟩ := hcut
      cases kq with
      | zero => exact absurd HA.out (by simp [gafferref02_Swap.j2])
      | succ kj16 =>
       have H := HA.out
       clear HA
       simp only [gafferref02_Swap.j2] at H
       have HC_5 := a_ H
       clear H
       go_upto_if 41 with (fail)
       go_cut [8] (fun v8 wc => ∃ (kq : Nat) (x8_22 : Int), v8 = .int .i64 x8_22 ∧ Aside0 (gafferref02_Swap.j3 kq a1 a2 x8_22 t_2 l0_0 a0_1 a0_2 = some (r1, r2, r3, r4)) ∧ Aside0 (kq ≤ kj16) ∧ Aside0 (wc.heap[gb_1]? = some (.cells #[(.slice A0_0 l0_0.length c0_0), .bool a0_1, .int .i64 a0_2] 24 (0, 0))) ∧ Aside0 (wc.heap[gb_2]? = some (.cells #[(.slice none 0 0), .bool false, .int .i64 0] 24 (0, 0))) ∧ Aside0 (Below w.heap.size w wc))
       case first =>
        have H := HC_5.out
        clear HC_5
        by_cases c_10 : x_3 = true
        ·subst c_10
         rw [if_pos rfl] at H
         have H' := a_ H
         clear H
         go_wp2
         go_meet
         case rel => exact ⟨_, (9), fz_, H', ⟨by have := HJ_1.out; have := HJ_2.out; have := HJ_3.out; first | omega | exact Nat.le_refl _⟩, ⟨bk_ BK_1⟩, ⟨bk_ BK_2⟩, ⟨bl_2 HB GE_1 GE_2⟩⟩
        replace c_10 := Bool.eq_false_iff.mpr c_10
        subst c_10
        rw [if_neg (show ¬ (false = true) by decide)] at H
        have H' := a_ H
        clear H
        go_wp2
        go_meet
        case rel => exact ⟨_, (x_2), fz_, H', ⟨by have := HJ_1.out; have := HJ_2.out; have := HJ_3.out; first | omega | exact Nat.le_refl _⟩, ⟨bk_ BK_1⟩, ⟨bk_ BK_2⟩, ⟨bl_2 HB GE_1 GE_2⟩⟩
       case rest =>
        clear HC_5
        obtain ⟨kq, x_4, rfl, HA, HJ_4, BK_1, BK_2, HB⟩ := hcut
        cases kq with
        | zero => exact absurd HA.out (by simp [gafferref02_Swap.j3])
        | succ kj22 =>
         have H := HA.out
         clear HA
         simp only [gafferref02_Swap.j3] at H
         have HC_6 := a_ H
         clear H
         go_upto_region 7 with (fail)
         go_cut [48] (fun v48 wc => ∃ (kq : Nat) (x48_24 : Bool), v48 = .bool x48_24 ∧ Aside0 (gafferref02_Swap.j4 kq a1 a2 x_4 t_2 x48_24 l0_0 a0_1 a0_2 = some (r1, r2, r3, r4)) ∧ Aside0 (kq ≤ kj22) ∧ Aside0 (wc.heap[gb_1]? = some (.cells #[(.slice A0_0 l0_0.length c0_0), .bool a0_1, .int .i64 a0_2] 24 (0, 0))) ∧ Aside0 (wc.heap[gb_2]? = some (.cells #[(.slice none 0 0), .bool false, .int .i64 0] 24 (0, 0))) ∧ Aside0 (Below w.heap.size w wc))
         case first =>
          have H := HC_6.out
          clear HC_6
          by_cases c_11 : x_4 = 0
          rotate_left
          ·rw [if_neg c_11] at H
           obtain ⟨c_12, c_13⟩ := bn_ c_11
           (first | rw [c_12] | (simp only [i64_w, i32_w]; rw [c_12]) | skip)
           have H' := a_ H
           clear H
           go_wp2
           go_meet
           case rel => exact ⟨_, (false), fz_, H', ⟨by have := HJ_1.out; have := HJ_2.out; have := HJ_3.out; have := HJ_4.out; first | omega | exact Nat.le_refl _⟩, ⟨bk_ BK_1⟩, ⟨bk_ BK_2⟩, ⟨bl_2 HB GE_1 GE_2⟩⟩
          rw [if_pos c_11] at H
          obtain ⟨c_12, c_13⟩ := be_ c_11
          clear c_11
          (first | rw [c_12] | (simp only [i64_w, i32_w]; rw [c_12]) | skip)
          obtain ⟨t_3, A_6, H⟩ := ob_ H
          try dsimp only at H
          have H' := a_ H
          clear H
          go_wp2_with (first | (go_at_call 101; (with_reducible refine (gafferref02_name.calls _ _ _ A_6.out).mono ?_); rintro e w' ⟨rfl, ⟨nd, rfl⟩⟩))
          go_meet
          case rel => exact ⟨_, (!t_3), fz_, H', ⟨by have := HJ_1.out; have := HJ_2.out; have := HJ_3.out; have := HJ_4.out; first | omega | exact Nat.le_refl _⟩, ⟨bk_ BK_1⟩, ⟨bk_ BK_2⟩, ⟨bl_2 HB GE_1 GE_2⟩⟩
         case rest =>
          clear HC_6
          obtain ⟨kq, x_5, rfl, HA, HJ_5, BK_1, BK_2, HB⟩ := hcut
          cases kq with
          | zero => exact absurd HA.out (by simp [gafferref02_Swap.j4])
          | succ kj24 =>
           have H := HA.out
           clear HA
           simp only [gafferref02_Swap.j4] at H
           have HC_7 := a_ H
           clear H
           go_upto_if 48 with (fail)
           go_cut [8] (fun v8 wc => ∃ (kq : Nat) (x8_27 : Int), v8 = .int .i64 x8_27 ∧ Aside0 (gafferref02_Swap.j5 kq a1 a2 x8_27 t_2 l0_0 a0_1 a0_2 = some (r1, r2, r3, r4)) ∧ Aside0 (kq ≤ kj24) ∧ Aside0 (wc.heap[gb_1]? = some (.cells #[(.slice A0_0 l0_0.length c0_0), .bool a0_1, .int .i64 a0_2] 24 (0, 0))) ∧ Aside0 (wc.heap[gb_2]? = some (.cells #[(.slice none 0 0), .bool false, .int .i64 0] 24 (0, 0))) ∧ Aside0 (Below w.heap.size w wc))
           case first =>
            have H := HC_7.out
            clear HC_7
            by_cases c_14 : x_5 = true
            ·subst c_14
             rw [if_pos rfl] at H
             have H' := a_ H
             clear H
             go_wp2
             go_meet
             case rel => exact ⟨_, (5), fz_, H', ⟨by have := HJ_1.out; have := HJ_2.out; have := HJ_3.out; have := HJ_4.out; have := HJ_5.out; first | omega | exact Nat.le_refl _⟩, ⟨bk_ BK_1⟩, ⟨bk_ BK_2⟩, ⟨bl_2 HB GE_1 GE_2⟩⟩
            replace c_14 := Bool.eq_false_iff.mpr c_14
            subst c_14
            rw [if_neg (show ¬ (false = true) by decide)] at H
            have H' := a_ H
            clear H
            go_wp2
            go_meet
            case rel => exact ⟨_, (x_4), fz_, H', ⟨by have := HJ_1.out; have := HJ_2.out; have := HJ_3.out; have := HJ_4.out; have := HJ_5.out; first | omega | exact Nat.le_refl _⟩, ⟨bk_ BK_1⟩, ⟨bk_ BK_2⟩, ⟨bl_2 HB GE_1 GE_2⟩⟩
           case rest =>
            clear HC_7
            obtain ⟨kq, x_6, rfl, HA, HJ_6, BK_1, BK_2, HB⟩ := hcut
            cases kq with
            | zero => exact absurd HA.out (by simp [gafferref02_Swap.j5])
            | succ kj27 =>
             have H := HA.out
             clear HA
             simp only [gafferref02_Swap.j5] at H
             by_cases c_15 : x_6 = 0
             rotate_left
             ·rw [if_neg c_15] at H
              obtain ⟨c_16, c_17⟩ := bn_ c_15
              obtain ⟨⟨t_4, t_5, t_6, t_7⟩, A_8, H⟩ := ob_ H
              try dsimp only at H
              obtain ⟨rfl, rfl, rfl, rfl⟩ := so4_ H
              have := NB_1.out
              have := NB_2.out
              obtain ⟨_, _, _, _, _, _⟩ := c3_ BK_1
              go_wp2_with (first | ((with_reducible refine gk_ 98 ?_); refine gl_ (some 53) Try.func98 #[.agg #[.slice A0_0 l0_0.length c0_0, .bool a0_1, .int .i64 a0_2], .int .i64 x_6] ?_; (with_reducible refine (gafferref02_bad.calls _ _ _ _ _ _ _ _ _ _ _ ?side1 ?side2 A_8.out).mono ?_); (case side1 => exact cl_ (Kd.C_below HR_1.out HB.out)); (case side2 => exact HC_1.out); rintro e w_7 ⟨v_1, rfl, ho_1, hb⟩; refine ⟨_, rfl, ?_⟩; have HO_1 := a_ (Kd.R_lower ho_1 (below_size (bl_2 HB GE_1 GE_2))); replace BK_1 := bB_ BK_1 hb; replace BK_2 := bB_ BK_2 hb; replace HB := hB_ (bl_2 HB GE_1 GE_2) hb; (try clear hb); (try clear ho_1); obtain ⟨Ao_1, co_1, eo_1⟩ := Kd.R_slice HO_1.out; subst eo_1; obtain ⟨_, _, _, _, _, _⟩ := c3_ BK_2))
              refine bodyPost_ret (results_ct rfl _ _ gb_2 24 #[.slice Ao_1 t_4.length co_1, .bool t_5, .int .i64 t_6] (0, 0) _ rfl (bp_0 BK_2) Try.underlying24 rfl (by kernel_rfl)) rfl ?_
              exact ⟨_, fz_, by refine rq_ ?_; exact rf1_ HO_1 BK_2, bl_2 HB GE_1 GE_2⟩
             rw [if_pos c_15] at H
             obtain ⟨c_16, c_17⟩ := be_ c_15
             clear c_15
             obtain ⟨⟨t_8, t_9, t_10⟩, A_10, H⟩ := ob_ H
             try dsimp only at H
             obtain ⟨⟨t_11, t_12, t_13, t_14⟩, A_12, H⟩ := ob_ H
             try dsimp only at H
             by_cases c_18 : t_14 = true
             rotate_left
             ·replace c_18 := Bool.eq_false_iff.mpr c_18
              subst c_18
              rw [if_neg (show ¬ (false = true) by decide)] at H
              obtain ⟨rfl, rfl, rfl, rfl⟩ := so4_ H
              have := NB_1.out
              have := NB_2.out
              obtain ⟨_, _, _, _, _, _⟩ := c3_ BK_1
              go_wp2_with (first | ((with_reducible refine gk_ 14 ?_); refine gl_ (some 58) Try.func14 #[.agg #[.slice A0_0 l0_0.length c0_0, .bool a0_1, .int .i64 a0_2]] ?_; (with_reducible refine (gafferref02_Copy.calls _ _ _ _ _ _ _ _ _ ?side1 ?side2 A_10.out).mono ?_); (case side1 => exact cl_ (Kd.C_below HR_1.out HB.out)); (case side2 => exact HC_1.out); rintro e w_8 ⟨v_2, rfl, ho_1, hb⟩; refine ⟨_, rfl, ?_⟩; have HO_2 := a_ (Kd.R_lower ho_1 (below_size (bl_2 HB GE_1 GE_2))); replace BK_1 := bB_ BK_1 hb; replace BK_2 := bB_ BK_2 hb; replace HB := hB_ (bl_2 HB GE_1 GE_2) hb; (try clear hb); (try clear ho_1); obtain ⟨Ao_2, co_2, eo_2⟩ := Kd.R_slice HO_2.out; subst eo_2) | ((with_reducible refine gk_ 99 ?_); refine gl_ (some 59) Try.func99 #[.agg #[.slice Ao_2 t_8.length co_2, .bool t_9, .int .i64 t_10]] ?_; (with_reducible refine (gafferref02_burnt.calls (fun k_ => some k_ = (.slice Ao_2 t_8.length co_2 : Value).ownBlock) _ _ _ _ _ _ _ _ w _ ?side1 ?side2 A_12.out).mono ?_); (case side1 => exact hb2_ HB GE_1.out GE_2.out); (case side2 => exact Kd.R_tight rfl HO_2.out); rintro e w_9 ⟨v_3, rfl, ho_1, hb, hkp⟩; refine ⟨_, rfl, ?_⟩; replace BK_1 := kp_ BK_1 hkp HO_2; replace BK_2 := kp_ BK_2 hkp HO_2; have HO_3 := rt_ ho_1; replace HB := a_ (hb); clear HO_2; (try clear hb); (try clear hkp); (try clear ho_1)) | ((with_reducible refine gd_ 10 ?_); (try (refine gate_guard (by rfl) ?_; dsimp only)); refine bz_ 10 #[.slice none 0 0, .bool false, .int .i64 0] 24 ?_; intro gb_3 hg w_10 BK_3 hb; replace HO_3 := rb_ HO_3 hb; have GE_3 := a_ (bs_2 hg HB GE_1 GE_2); replace HB := hB_ (bl_2 HB GE_1 GE_2) hb; have NB_3 := nB_ hg BK_1; have NB_4 := nC_ hg BK_1; replace BK_1 := bB_ BK_1 hb; have NB_5 := nB_ hg BK_2; have NB_6 := nC_ hg BK_2; replace BK_2 := bB_ BK_2 hb; clear hb hg; obtain ⟨Ao_3, co_3, eo_3⟩ := Kd.R_slice HO_3.out; subst eo_3; have := NB_4.out; have := NB_3.out; have := NB_6.out; have := NB_5.out; obtain ⟨_, _, _, _, _, _⟩ := c3_ BK_3; obtain ⟨_, _, _, _, _, _⟩ := c3_ BK_2))
              refine bodyPost_ret (results_ct rfl _ _ gb_2 24 #[.slice Ao_3 t_11.length co_3, .bool t_12, .int .i64 t_13] (0, 0) _ rfl (bp_1 BK_2 NB_5) Try.underlying24 rfl (by kernel_rfl)) rfl ?_
              exact ⟨_, fz_, by refine rq_ ?_; exact rf2_ HO_3 BK_3 BK_2, bl_3 HB GE_1 GE_2 GE_3⟩
             subst c_18
             rw [if_pos rfl] at H
             replace H := ip_ H
             obtain ⟨-, c_20, H⟩ := H
             replace H := ip_ H
             obtain ⟨-, c_22, H⟩ := H
             obtain ⟨⟨t_15, t_16, t_17⟩, A_14, H⟩ := ob_ H
             try dsimp only at H
             obtain ⟨⟨t_18, t_19, t_20⟩, A_16, H⟩ := ob_ H
             try dsimp only at H
             obtain ⟨rfl, rfl, rfl, rfl⟩ := so4_ H
             have := NB_1.out
             have := NB_2.out
             obtain ⟨_, _, _, _, _, _⟩ := c3_ BK_1
             try go_wp2_with (first | ((with_reducible refine gk_ 14 ?_); refine gl_ (some 58) Try.func14 #[.agg #[.slice A0_0 l0_0.length c0_0, .bool a0_1, .int .i64 a0_2]] ?_; (with_reducible refine (gafferref02_Copy.calls _ _ _ _ _ _ _ _ _ ?side1 ?side2 A_10.out).mono ?_); (case side1 => exact cl_ (Kd.C_below HR_1.out HB.out)); (case side2 => exact HC_1.out); rintro e w_11 ⟨v_2, rfl, ho_1, hb⟩; refine ⟨_, rfl, ?_⟩; have HO_2 := a_ (Kd.R_lower ho_1 (below_size (bl_2 HB GE_1 GE_2))); replace BK_1 := bB_ BK_1 hb; replace BK_2 := bB_ BK_2 hb; replace HB := hB_ (bl_2 HB GE_1 GE_2) hb; (try clear hb); (try clear ho_1); obtain ⟨Ao_4, co_4, eo_4⟩ := Kd.R_slice HO_2.out; subst eo_4) | ((with_reducible refine gk_ 99 ?_); refine gl_ (some 59) Try.func99 #[.agg #[.slice Ao_4 t_8.length co_4, .bool t_9, .int .i64 t_10]] ?_; (with_reducible refine (gafferref02_burnt.calls (fun k_ => some k_ = (.slice Ao_4 t_8.length co_4 : Value).ownBlock) _ _ _ _ _ _ _ _ w _ ?side1 ?side2 A_12.out).mono ?_); (case side1 => exact hb2_ HB GE_1.out GE_2.out); (case side2 => exact Kd.R_tight rfl HO_2.out); rintro e w_12 ⟨v_3, rfl, ho_1, hb, hkp⟩; refine ⟨_, rfl, ?_⟩; replace BK_1 := kp_ BK_1 hkp HO_2; replace BK_2 := kp_ BK_2 hkp HO_2; have HO_3 := rt_ ho_1; replace HB := a_ (hb); clear HO_2; (try clear hb); (try clear hkp); (try clear ho_1)) | ((with_reducible refine gd_ 10 ?_); (try (refine gate_guard (by rfl) ?_; dsimp only)); refine bz_ 10 #[.slice none 0 0, .bool false, .int .i64 0] 24 ?_; intro gb_3 hg w_13 BK_3 hb; replace HO_3 := rb_ HO_3 hb; have GE_3 := a_ (bs_2 hg HB GE_1 GE_2); replace HB := hB_ (bl_2 HB GE_1 GE_2) hb; have NB_3 := nB_ hg BK_1; have NB_4 := nC_ hg BK_1; replace BK_1 := bB_ BK_1 hb; have NB_5 := nB_ hg BK_2; have NB_6 := nC_ hg BK_2; replace BK_2 := bB_ BK_2 hb; clear hb hg; obtain ⟨Ao_5, co_5, eo_5⟩ := Kd.R_slice HO_3.out; subst eo_5; have := NB_4.out; have := NB_3.out; have := NB_6.out; have := NB_5.out; obtain ⟨_, _, _, _, _, _⟩ := c3_ BK_3; have p_3 : 0 ≤ (t_2 : Int) := od_; have q_3 : t_2 < (t_11.length : Int) := od_; obtain ⟨ad_3, e_3, hx_7, hx_8, hx_9⟩ := at_T71 (Kd.R_reads' HO_3.out).2.2 t_2 p_3 q_3; cases e_3; have hn_1 : ad_3.block ≠ gb_3 := Kd.own_blk (Kd.R_ne HO_3.out BK_3.out (by decide)); have hn_2 : ad_3.block ≠ gb_3 := Kd.own_blk (Kd.R_ne HO_3.out BK_3.out (by decide)); have hn_3 : ad_3.block ≠ gb_3 := Kd.own_blk (Kd.R_ne HO_3.out BK_3.out (by decide)); replace hx_7 := (cf_ (p := ⟨gb_3, 0, none⟩) hn_1 (.slice (some ad_3) t_11.length co_5)).trans hx_7; replace hx_8 := (cf_ (p := ⟨gb_3, 0, none⟩) hn_1 (.slice (some ad_3) t_11.length co_5)).trans hx_8; replace hx_9 := (cf_ (p := ⟨gb_3, 0, none⟩) hn_1 (.slice (some ad_3) t_11.length co_5)).trans hx_9; replace hx_7 := (cf_ (p := ⟨gb_3, 1, none⟩) hn_2 (.bool t_12)).trans hx_7; replace hx_8 := (cf_ (p := ⟨gb_3, 1, none⟩) hn_2 (.bool t_12)).trans hx_8; replace hx_9 := (cf_ (p := ⟨gb_3, 1, none⟩) hn_2 (.bool t_12)).trans hx_9; replace hx_7 := (cf_ (p := ⟨gb_3, 2, none⟩) hn_3 (.int .i64 t_13)).trans hx_7; replace hx_8 := (cf_ (p := ⟨gb_3, 2, none⟩) hn_3 (.int .i64 t_13)).trans hx_8; replace hx_9 := (cf_ (p := ⟨gb_3, 2, none⟩) hn_3 (.int .i64 t_13)).trans hx_9; clear hn_1; clear hn_2; clear hn_3; replace p_3 := eq_true p_3; replace q_3 := eq_true q_3) | ((with_reducible refine gd_ 12 ?_); (try (refine gate_guard (by rfl) ?_; dsimp only)); refine bz_ 12 #[.string (⟨#[]⟩ : ByteArray), .string (⟨#[]⟩ : ByteArray), .int .i64 0] 71 ?_; intro gb_4 hg w_14 BK_4 hb; replace HO_3 := a_ (Kd.R_below (Kd.R_elderB (by refine rq_ ?_; exact (rf1_ HO_3 BK_3)) gb_4 (Nat.le_of_eq hg.symm)) hb); have GE_4 := a_ (bs_3 hg HB GE_1 GE_2 GE_3); replace HB := hB_ (bl_3 HB GE_1 GE_2 GE_3) hb; have NB_7 := a_ ((by rw [hg]; exact Nat.ne_of_lt (blk_lt (g := gb_1) (o := .cells #[.slice A0_0 l0_0.length c0_0, .bool a0_1, .int .i64 a0_2] 24 (0, 0)) (bp_1 BK_1 NB_3)) : gb_1 ≠ gb_4)); have NB_8 := a_ ((by rw [hg]; exact Nat.ne_of_gt (blk_lt (g := gb_1) (o := .cells #[.slice A0_0 l0_0.length c0_0, .bool a0_1, .int .i64 a0_2] 24 (0, 0)) (bp_1 BK_1 NB_3)) : gb_4 ≠ gb_1)); replace BK_1 := bw_1 #[.slice A0_0 l0_0.length c0_0, .bool a0_1, .int .i64 a0_2] BK_1 NB_3 hb; have NB_9 := a_ ((by rw [hg]; exact Nat.ne_of_lt (blk_lt (g := gb_2) (o := .cells #[.slice none 0 0, .bool false, .int .i64 0] 24 (0, 0)) (bp_1 BK_2 NB_5)) : gb_2 ≠ gb_4)); have NB_10 := a_ ((by rw [hg]; exact Nat.ne_of_gt (blk_lt (g := gb_2) (o := .cells #[.slice none 0 0, .bool false, .int .i64 0] 24 (0, 0)) (bp_1 BK_2 NB_5)) : gb_4 ≠ gb_2)); replace BK_2 := bw_1 #[.slice none 0 0, .bool false, .int .i64 0] BK_2 NB_5 hb; have NB_11 := a_ ((by rw [hg]; exact Nat.ne_of_lt (blk_lt (g := gb_3) (o := .cells #[.slice (some ad_3) t_11.length co_5, .bool t_12, .int .i64 t_13] 24 (0, 0)) (bp_0 BK_3)) : gb_3 ≠ gb_4)); have NB_12 := a_ ((by rw [hg]; exact Nat.ne_of_gt (blk_lt (g := gb_3) (o := .cells #[.slice (some ad_3) t_11.length co_5, .bool t_12, .int .i64 t_13] 24 (0, 0)) (bp_0 BK_3)) : gb_4 ≠ gb_3)); replace BK_3 := bw_0 #[.slice (some ad_3) t_11.length co_5, .bool t_12, .int .i64 t_13] BK_3 hb; clear hb hg; have := NB_8.out; have := NB_7.out; have := NB_10.out; have := NB_9.out; have := NB_12.out; have := NB_11.out; obtain ⟨_, _, _, _, _, _⟩ := c3_ BK_4))
             have n_1 : Aside0 (Kd.R k71 71 ((((w_14.setCell ⟨gb_4, 0, none⟩ (.string ((rd_T71 t_11 t_2).f0))).setCell ⟨gb_4, 1, none⟩ (.string ((rd_T71 t_11 t_2).f1))).setCell ⟨gb_4, 2, none⟩ (.int .i64 ((rd_T71 t_11 t_2).f2))).setCell ⟨gb_4, 0, none⟩ (.string a2)) w.heap.size (fun k_ => k_ ≠ gb_4) (.slice (some ad_3) t_11.length co_5) t_11) := ⟨by refine rq_ ?_; exact Kd.R_mono (Kd.R_far (p := ⟨gb_4, 0, none⟩) (Kd.R_far (p := ⟨gb_4, 2, none⟩) (Kd.R_far (p := ⟨gb_4, 1, none⟩) (Kd.R_far (p := ⟨gb_4, 0, none⟩) (Kd.R_mono HO_3.out (fun k_ hk => (⟨hk, hk.2⟩ : _ ∧ k_ ≠ gb_4))) (fun _ hk => hk.2) (.string ((rd_T71 t_11 t_2).f0))) (fun _ hk => hk.2) (.string ((rd_T71 t_11 t_2).f1))) (fun _ hk => hk.2) (.int .i64 ((rd_T71 t_11 t_2).f2))) (fun _ hk => hk.2) (.string a2)) (fun _ hk => hk.1.2)⟩
             have n_2 : Aside0 (((((w_14.setCell ⟨gb_4, 0, none⟩ (.string ((rd_T71 t_11 t_2).f0))).setCell ⟨gb_4, 1, none⟩ (.string ((rd_T71 t_11 t_2).f1))).setCell ⟨gb_4, 2, none⟩ (.int .i64 ((rd_T71 t_11 t_2).f2))).setCell ⟨gb_4, 0, none⟩ (.string a2)).heap[gb_1]? = some (.cells #[.slice A0_0 l0_0.length c0_0, .bool a0_1, .int .i64 a0_2] 24 (0, 0))) := ⟨by refine bq_ ?_; refine blk_far ?_ NB_7.out _; refine bq_ ?_; refine blk_far ?_ NB_7.out _; refine bq_ ?_; refine blk_far ?_ NB_7.out _; refine bq_ ?_; refine blk_far ?_ NB_7.out _; refine bq_ ?_; exact BK_1.out⟩
             have n_3 : Aside0 (((((w_14.setCell ⟨gb_4, 0, none⟩ (.string ((rd_T71 t_11 t_2).f0))).setCell ⟨gb_4, 1, none⟩ (.string ((rd_T71 t_11 t_2).f1))).setCell ⟨gb_4, 2, none⟩ (.int .i64 ((rd_T71 t_11 t_2).f2))).setCell ⟨gb_4, 0, none⟩ (.string a2)).heap[gb_2]? = some (.cells #[.slice none 0 0, .bool false, .int .i64 0] 24 (0, 0))) := ⟨by refine bq_ ?_; refine blk_far ?_ NB_9.out _; refine bq_ ?_; refine blk_far ?_ NB_9.out _; refine bq_ ?_; refine blk_far ?_ NB_9.out _; refine bq_ ?_; refine blk_far ?_ NB_9.out _; refine bq_ ?_; exact BK_2.out⟩
             have n_4 : Aside0 (((((w_14.setCell ⟨gb_4, 0, none⟩ (.string ((rd_T71 t_11 t_2).f0))).setCell ⟨gb_4, 1, none⟩ (.string ((rd_T71 t_11 t_2).f1))).setCell ⟨gb_4, 2, none⟩ (.int .i64 ((rd_T71 t_11 t_2).f2))).setCell ⟨gb_4, 0, none⟩ (.string a2)).heap[gb_3]? = some (.cells #[.slice (some ad_3) t_11.length co_5, .bool t_12, .int .i64 t_13] 24 (0, 0))) := ⟨by refine bq_ ?_; refine blk_far ?_ NB_11.out _; refine bq_ ?_; refine blk_far ?_ NB_11.out _; refine bq_ ?_; refine blk_far ?_ NB_11.out _; refine bq_ ?_; refine blk_far ?_ NB_11.out _; refine bq_ ?_; exact BK_3.out⟩
             have n_5 : Aside0 (((((w_14.setCell ⟨gb_4, 0, none⟩ (.string ((rd_T71 t_11 t_2).f0))).setCell ⟨gb_4, 1, none⟩ (.string ((rd_T71 t_11 t_2).f1))).setCell ⟨gb_4, 2, none⟩ (.int .i64 ((rd_T71 t_11 t_2).f2))).setCell ⟨gb_4, 0, none⟩ (.string a2)).heap[gb_4]? = some (.cells #[.string a2, .string ((rd_T71 t_11 t_2).f1), .int .i64 ((rd_T71 t_11 t_2).f2)] 71 (0, 0))) := ⟨by refine bq_ ?_; refine blk_put (cs := #[.string ((rd_T71 t_11 t_2).f0), .string ((rd_T71 t_11 t_2).f1), .int .i64 ((rd_T71 t_11 t_2).f2)]) ?_ 0 _ rfl; refine bq_ ?_; refine blk_put (cs := #[.string ((rd_T71 t_11 t_2).f0), .string ((rd_T71 t_11 t_2).f1), .int .i64 0]) ?_ 2 _ rfl; refine bq_ ?_; refine blk_put (cs := #[.string ((rd_T71 t_11 t_2).f0), .string (⟨#[]⟩ : ByteArray), .int .i64 0]) ?_ 1 _ rfl; refine bq_ ?_; refine blk_put (cs := #[.string (⟨#[]⟩ : ByteArray), .string (⟨#[]⟩ : ByteArray), .int .i64 0]) ?_ 0 _ rfl; refine bq_ ?_; exact BK_4.out⟩
             have n_6 : Aside0 (Below w.heap.size w ((((w_14.setCell ⟨gb_4, 0, none⟩ (.string ((rd_T71 t_11 t_2).f0))).setCell ⟨gb_4, 1, none⟩ (.string ((rd_T71 t_11 t_2).f1))).setCell ⟨gb_4, 2, none⟩ (.int .i64 ((rd_T71 t_11 t_2).f2))).setCell ⟨gb_4, 0, none⟩ (.string a2))) := ⟨bl_4 HB GE_1 GE_2 GE_3 GE_4⟩
             (try clear HO_3)
             (try clear BK_1)
             (try clear BK_2)
             (try clear BK_3)
             (try clear BK_4)
             (try clear HB)
             generalize ((((w_14.setCell ⟨gb_4, 0, none⟩ (.string ((rd_T71 t_11 t_2).f0))).setCell ⟨gb_4, 1, none⟩ (.string ((rd_T71 t_11 t_2).f1))).setCell ⟨gb_4, 2, none⟩ (.int .i64 ((rd_T71 t_11 t_2).f2))).setCell ⟨gb_4, 0, none⟩ (.string a2)) = w_15 at n_1 n_2 n_3 n_4 n_5 n_6 ⊢
             have HO_3 := n_1
             have BK_1 := n_2
             have BK_2 := n_3
             have BK_3 := n_4
             have BK_4 := n_5
             have HB := n_6
             clear n_1 n_2 n_3 n_4 n_5 n_6
             replace HO_3 := a_ (Kd.R_drew HO_3.out)
             replace BK_1 := a_ (blk_drew BK_1.out)
             replace BK_2 := a_ (blk_drew BK_2.out)
             replace BK_3 := a_ (blk_drew BK_3.out)
             replace BK_4 := a_ (blk_drew BK_4.out)
             replace HB := a_ (below_drew1 HB.out)
             refine start_ (n := 7) (S := fun w' => w'.cell? ⟨gb_3, 0, none⟩ = some (.slice (some ad_3) t_11.length co_5) ∧ w'.cell? ⟨gb_3, 1, none⟩ = some (.bool t_12) ∧ w'.cell? ⟨gb_3, 2, none⟩ = some (.int .i64 t_13) ∧ w'.cell? ⟨gb_4, 0, none⟩ = some (.string a2) ∧ w'.cell? ⟨gb_4, 1, none⟩ = some (.string ((rd_T71 t_11 t_2).f1)) ∧ w'.cell? ⟨gb_4, 2, none⟩ = some (.int .i64 ((rd_T71 t_11 t_2).f2))) (ds := []) #[false, false, false, false, false, false, false] (by kernel_rfl) rfl rfl ⟨(blk_cell BK_3.out 0).trans rfl, (blk_cell BK_3.out 1).trans rfl, (blk_cell BK_3.out 2).trans rfl, (blk_cell BK_4.out 0).trans rfl, (blk_cell BK_4.out 1).trans rfl, (blk_cell BK_4.out 2).trans rfl⟩ (fun hHeld => ?_)
             generalize w_15.drew = w_16 at HO_3 BK_1 BK_2 BK_3 BK_4 HB hHeld ⊢
             refine pk_ 1 (some 73) ?_
             refine tk_ 0 (some 72) hHeld ?_
             refine tk_ 3 (some 75) hHeld ?_
             refine ok_ 2 (some 74) (fun K hK => ?_)
             refine goes_ Try.func100 (by kernel_rfl) rfl #[.agg #[.slice (some ad_3) t_11.length co_5, .bool t_12, .int .i64 t_13], .string a1] (by rfl) rfl rfl (ar_) ?_
             with_reducible refine (gafferref02_without.calls _ _ _ _ _ _ _ _ _ _ _ ?side1 ?side2 A_14.out).mono ?_
             (case side1 => exact cl_ ((Kd.R_reads' HO_3.out).2.2))
             (case side2 => exact (Kd.R_reads' HO_3.out).2.1)
             rintro e w_17 ⟨v_4, rfl, ho_1, hb⟩
             refine ⟨_, rfl, ?_⟩
             have HO_4 := a_ (Kd.R_lower (Kd.R_newB (Kd.R_new' ho_1 (Kd.R_lt (by refine rq_ ?_; exact HO_3.out))) (g := gb_4) (o := .cells #[.string a2, .string ((rd_T71 t_11 t_2).f1), .int .i64 ((rd_T71 t_11 t_2).f2)] 71 (0, 0)) (bk_ BK_4)) (below_size (bl_4 HB GE_1 GE_2 GE_3 GE_4)))
             replace HO_3 := a_ (Kd.R_elder' (by refine rq_ ?_; exact HO_3.out) (Kd.R_base ho_1) hb)
             replace BK_1 := bB_ BK_1 hb
             replace BK_2 := bB_ BK_2 hb
             replace BK_3 := bB_ BK_3 hb
             replace BK_4 := bB_ BK_4 hb
             replace HB := hB_ (bl_4 HB GE_1 GE_2 GE_3 GE_4) hb
             clear hb ho_1
             obtain ⟨Ao_6, co_6, eo_6⟩ := Kd.R_slice HO_4.out
             (first | subst eo_6 | (injection eo_6 with f1_ f2_ f3_; have f_1 := f1_.symm; have f_2 := f3_.symm; clear f1_ f2_ f3_; subst f_1; subst f_2))
             refine hK.out _ _ ⟨(blk_cell BK_3.out 0).trans rfl, (blk_cell BK_3.out 1).trans rfl, (blk_cell BK_3.out 2).trans rfl, (blk_cell BK_4.out 0).trans rfl, (blk_cell BK_4.out 1).trans rfl, (blk_cell BK_4.out 2).trans rfl⟩ (fun hHeld => ?_)
             clear hK K
             refine nop_ ?_
             refine ok_ 4 (some 76) (fun K hK => ?_)
             refine goes_ Try.func102 (by kernel_rfl) rfl #[.agg #[.slice Ao_6 t_15.length co_6, .bool t_16, .int .i64 t_17], .agg #[.string a2, .string ((rd_T71 t_11 t_2).f1), .int .i64 ((rd_T71 t_11 t_2).f2)]] (by rfl) rfl rfl (ar_) ?_
             with_reducible refine (gafferref02_with.calls _ _ _ _ _ _ _ _ _ _ _ _ _ ?side1 ?side2 A_16.out).mono ?_
             (case side1 => exact cl_ ((Kd.R_reads' HO_4.out).2.2))
             (case side2 => exact (Kd.R_reads' HO_4.out).2.1)
             rintro e w_18 ⟨v_5, rfl, ho_1, hb⟩
             refine ⟨_, rfl, ?_⟩
             have HO_5 := a_ (Kd.R_lower (Kd.R_newB (Kd.R_new' (Kd.R_new' ho_1 (Kd.R_lt (by refine rq_ ?_; exact HO_3.out))) (Kd.R_lt (by refine rq_ ?_; exact HO_4.out))) (g := gb_4) (o := .cells #[.string a2, .string ((rd_T71 t_11 t_2).f1), .int .i64 ((rd_T71 t_11 t_2).f2)] 71 (0, 0)) (bk_ BK_4)) (below_size (bl_4 HB GE_1 GE_2 GE_3 GE_4)))
             replace HO_3 := a_ (Kd.R_elder' (by refine rq_ ?_; exact HO_3.out) (Kd.R_base ho_1) hb)
             replace HO_4 := a_ (Kd.R_elder' (by refine rq_ ?_; exact HO_4.out) (Kd.R_base ho_1) hb)
             replace BK_1 := bB_ BK_1 hb
             replace BK_2 := bB_ BK_2 hb
             replace BK_3 := bB_ BK_3 hb
             replace BK_4 := bB_ BK_4 hb
             replace HB := hB_ (bl_4 HB GE_1 GE_2 GE_3 GE_4) hb
             clear hb ho_1
             obtain ⟨Ao_7, co_7, eo_7⟩ := Kd.R_slice HO_5.out
             (first | subst eo_7 | (injection eo_7 with f1_ f2_ f3_; have f_1 := f1_.symm; have f_2 := f3_.symm; clear f1_ f2_ f3_; subst f_1; subst f_2))
             refine hK.out _ _ ⟨(blk_cell BK_3.out 0).trans rfl, (blk_cell BK_3.out 1).trans rfl, (blk_cell BK_3.out 2).trans rfl, (blk_cell BK_4.out 0).trans rfl, (blk_cell BK_4.out 1).trans rfl, (blk_cell BK_4.out 2).trans rfl⟩ (fun hHeld => ?_)
             clear hK K
             refine nop_ ?_
             refine ok_ 5 (none) (fun K hK => ?_)
             have hs_1 : w_18.cell? ⟨gb_2, 0, none⟩ = some (.slice none 0 0) := (blk_cell BK_2.out 0).trans rfl
             have hfs_1 := blk_frozen BK_2.out 0
             have hns_1 := NB_1.out
             have hns_2 := NB_6.out
             have hns_3 := NB_10.out
             have hms_1 := NB_2.out
             have hms_2 := NB_5.out
             have hms_3 := NB_9.out
             have hs_2 : w_18.cell? ⟨gb_2, 1, none⟩ = some (.bool false) := (blk_cell BK_2.out 1).trans rfl
             have hfs_2 := blk_frozen BK_2.out 1
             have hns_4 := NB_1.out
             have hns_5 := NB_6.out
             have hns_6 := NB_10.out
             have hms_4 := NB_2.out
             have hms_5 := NB_5.out
             have hms_6 := NB_9.out
             have hs_3 : w_18.cell? ⟨gb_2, 2, none⟩ = some (.int .i64 0) := (blk_cell BK_2.out 2).trans rfl
             have hfs_3 := blk_frozen BK_2.out 2
             have hns_7 := NB_1.out
             have hns_8 := NB_6.out
             have hns_9 := NB_10.out
             have hms_7 := NB_2.out
             have hms_8 := NB_5.out
             have hms_9 := NB_9.out
             refine skip_ (w1 := ?_) (by rfl) rfl ?_ ?_
             rotate_left
             ·go_simp
              rfl
             refine hK.out _ _ ⟨((cell_far (p := ⟨gb_2, _, none⟩) NB_6.out _).trans (((cell_far (p := ⟨gb_2, _, none⟩) NB_6.out _).trans (((cell_far (p := ⟨gb_2, _, none⟩) NB_6.out _).trans (hHeld.1)))))), ((cell_far (p := ⟨gb_2, _, none⟩) NB_6.out _).trans (((cell_far (p := ⟨gb_2, _, none⟩) NB_6.out _).trans (((cell_far (p := ⟨gb_2, _, none⟩) NB_6.out _).trans (hHeld.2.1)))))), ((cell_far (p := ⟨gb_2, _, none⟩) NB_6.out _).trans (((cell_far (p := ⟨gb_2, _, none⟩) NB_6.out _).trans (((cell_far (p := ⟨gb_2, _, none⟩) NB_6.out _).trans (hHeld.2.2.1)))))), ((cell_far (p := ⟨gb_2, _, none⟩) NB_10.out _).trans (((cell_far (p := ⟨gb_2, _, none⟩) NB_10.out _).trans (((cell_far (p := ⟨gb_2, _, none⟩) NB_10.out _).trans (hHeld.2.2.2.1)))))), ((cell_far (p := ⟨gb_2, _, none⟩) NB_10.out _).trans (((cell_far (p := ⟨gb_2, _, none⟩) NB_10.out _).trans (((cell_far (p := ⟨gb_2, _, none⟩) NB_10.out _).trans (hHeld.2.2.2.2.1)))))), ((cell_far (p := ⟨gb_2, _, none⟩) NB_10.out _).trans (((cell_far (p := ⟨gb_2, _, none⟩) NB_10.out _).trans (((cell_far (p := ⟨gb_2, _, none⟩) NB_10.out _).trans (hHeld.2.2.2.2.2))))))⟩ (fun hHeld => ?_)
             clear hK K
             refine pk_ 6 (some 7) ?_
             refine done_ (by kernel_rfl) ?_
             try go_wp2
             refine bodyPost_ret (results_ct rfl _ _ gb_2 24 #[.slice Ao_7 t_18.length co_7, .bool t_19, .int .i64 t_20] (0, 0) _ rfl (bp_0 BK_2) Try.underlying24 rfl (by kernel_rfl)) rfl ?_
             exact ⟨_, fz_, by refine rq_ ?_; exact rf1_ HO_5 BK_2, bl_4 HB GE_1 GE_2 GE_3 GE_4⟩
end Go.Proofs.Ytpigjmjbfpipnaa.PF
