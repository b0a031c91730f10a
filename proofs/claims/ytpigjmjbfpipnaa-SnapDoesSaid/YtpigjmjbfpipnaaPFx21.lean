-- By a program of this session.
import Derived.Test.YtpigjmjbfpipnaaPFx0
import Derived.Test.YtpigjmjbfpipnaaPFx15
import Derived.Test.YtpigjmjbfpipnaaPFx20
namespace Go.Proofs.Ytpigjmjbfpipnaa.PF
open Go.RowKit YtpigjmjbfpipnaaW.PrintWords YtpigjmjbfpipnaaW.PrintLast YtpigjmjbfpipnaaW.PrintMore Sh Ytpigjmjbfpipnaa.Op
attribute [local go_sem] max2_int min2_int max_two min_two max_three min_three max_four min_four
set_option linter.unusedVariables false
set_option maxHeartbeats 80000000
set_option maxRecDepth 100000
set_option linter.unusedSimpArgs false
mutual
def gafferref04_Put.j0 : Nat → ByteArray → ByteArray → ByteArray → Int → List (S71) → Bool → Int → Option ((List (S71)) × Bool × Int × Int)
 | 0, _, _, _, _, _, _, _ => none
 | k + 1, x1, x2, x8, x9, x626000, x626001, x626002 => if x9 = 0 then ((gafferref02_Add.f k x626000 x626001 x626002 x8 x2).bind fun bt635 => (gafferref04_Put.j1 k x1 x8 bt635.2.2.2 bt635.1 bt635.2.1 bt635.2.2.1)) else (gafferref04_Put.j1 k x1 x8 x9 x626000 x626001 x626002)
def gafferref04_Put.j1 : Nat → ByteArray → ByteArray → Int → List (S71) → Bool → Int → Option ((List (S71)) × Bool × Int × Int)
 | 0, _, _, _, _, _, _ => none
 | k + 1, x1, x8, x9, x626000, x626001, x626002 => if x9 = 0 then ((gafferref02_Sync.f k x626000 x626001 x626002 x8).bind fun bt641 => (if bt641.2.2.2 = 0 then ((gafferref02_Swap.f k bt641.1 bt641.2.1 bt641.2.2.1 x8 x1).bind fun bt647 => (some (bt647.1, bt647.2.1, bt647.2.2.1, bt647.2.2.2))) else (some (bt641.1, bt641.2.1, bt641.2.2.1, bt641.2.2.2)))) else (some (x626000, x626001, x626002, x9))
end
def gafferref04_Put.f (k : Nat) (l0_0 : List (S71)) (a0_1 : Bool) (a0_2 : Int) (a1 : ByteArray) (a2 : ByteArray) : Option ((List (S71)) × Bool × Int × Int) := if a1.size + 4 ≤ 9223372036854775807 then ((gafferref02_Read.f k l0_0 a0_1 a0_2 (a1 ++ (⟨#[46, 116, 109, 112]⟩ : ByteArray))).bind fun bt627 => (if bt627.2 = 0 then ((gafferref02_Drop.f k l0_0 a0_1 a0_2 (a1 ++ (⟨#[46, 116, 109, 112]⟩ : ByteArray))).bind fun bt629 => (gafferref04_Put.j0 k a1 a2 (a1 ++ (⟨#[46, 116, 109, 112]⟩ : ByteArray)) bt629.2.2.2 bt629.1 bt629.2.1 bt629.2.2.1)) else (gafferref04_Put.j0 k a1 a2 (a1 ++ (⟨#[46, 116, 109, 112]⟩ : ByteArray)) 0 l0_0 a0_1 a0_2))) else (none)
theorem gafferref04_Put.mono_l : ∀ k, (∀ y0 y1 y2 y3 y4 y5 y6, LeO (gafferref04_Put.j0 k y0 y1 y2 y3 y4 y5 y6) (gafferref04_Put.j0 (k + 1) y0 y1 y2 y3 y4 y5 y6)) ∧ (∀ y0 y1 y2 y3 y4 y5, LeO (gafferref04_Put.j1 k y0 y1 y2 y3 y4 y5) (gafferref04_Put.j1 (k + 1) y0 y1 y2 y3 y4 y5))
 | 0 => ⟨fun _ _ _ _ _ _ _ r h => by simp [gafferref04_Put.j0] at h, fun _ _ _ _ _ _ r h => by simp [gafferref04_Put.j1] at h⟩
 | k + 1 => by
  obtain ⟨ih0, ih1⟩ := gafferref04_Put.mono_l k
  refine ⟨?_, ?_⟩
  ·intro y0 y1 y2 y3 y4 y5 y6
   unfold gafferref04_Put.j0
   repeat' with_reducible first | apply ih0 | apply ih1 | apply gafferref02_Add.mono | apply gafferref02_Drop.mono | apply gafferref02_Read.mono | apply gafferref02_Swap.mono | apply gafferref02_Sync.mono | apply LeO.refl | apply LeO.none | apply LeO.ite | refine LeO.bind ?_ (fun _ => ?_)
  ·intro y0 y1 y2 y3 y4 y5
   unfold gafferref04_Put.j1
   repeat' with_reducible first | apply ih0 | apply ih1 | apply gafferref02_Add.mono | apply gafferref02_Drop.mono | apply gafferref02_Read.mono | apply gafferref02_Swap.mono | apply gafferref02_Sync.mono | apply LeO.refl | apply LeO.none | apply LeO.ite | refine LeO.bind ?_ (fun _ => ?_)
theorem gafferref04_Put.mono : ∀ a0 a1 a2 a3 a4 k, LeO (gafferref04_Put.f k a0 a1 a2 a3 a4) (gafferref04_Put.f (k + 1) a0 a1 a2 a3 a4) := by
 intro a0 a1 a2 a3 a4 k
 obtain ⟨ih0, ih1⟩ := gafferref04_Put.mono_l k
 unfold gafferref04_Put.f
 repeat' with_reducible first | apply ih0 | apply ih1 | apply gafferref02_Add.mono | apply gafferref02_Drop.mono | apply gafferref02_Read.mono | apply gafferref02_Swap.mono | apply gafferref02_Sync.mono | apply LeO.refl | apply LeO.none | apply LeO.ite | refine LeO.bind ?_ (fun _ => ?_)
theorem gafferref04_Put.calls (k : Nat) (P0_0_ : Nat → Prop) (A0_0 : Option Addr) (c0_0 : Nat) (l0_0 : List (S71)) (a0_1 : Bool) (a0_2 : Int) (a1 : ByteArray) (a2 : ByteArray) (r1 : List (S71)) (r2 : Bool) (r3 : Int) (r4 : Int) (w : World) (hs0_0 : Kd.V k71 71 w w.heap.size (fun k_ => P0_0_ k_) (.slice A0_0 l0_0.length c0_0) l0_0) (h : gafferref04_Put.f k l0_0 a0_1 a0_2 a1 a2 = some (r1, r2, r3, r4)) :
  Calls Try.prog 47 #[.agg #[.slice A0_0 l0_0.length c0_0, .bool a0_1, .int .i64 a0_2], .string a1, .string a2] w fun e w' => ∃ v0_ : Value, e = .returned (.tuple #[.agg #[v0_, .bool r2, .int .i64 r3], .int .i64 r4]) ∧ Kd.V k71 71 w' w.heap.size (fun k_ => (P0_0_ k_ ∨ w.heap.size ≤ k_)) v0_ r1 ∧ Below w.heap.size w w' := by
 have hu_1 := Try.underlying24
 have HO_1 := a_ (show Kd.V k71 71 w w.heap.size (fun k_ => (P0_0_ k_ ∨ w.heap.size ≤ k_)) (.slice A0_0 l0_0.length c0_0) l0_0 from Kd.V_mono hs0_0 (fun k_ hk => .inl hk))
 have HB := a_ (Below.refl w.heap.size w)
 have H := h
 unfold gafferref04_Put.f at H
 clear h
 replace H := iq_ H
 obtain ⟨c_1, H⟩ := H
 have c_2 := eq_true c_1
 have c_3 : decide (a1.size + 4 ≤ 9223372036854775807) = true := decide_eq_true c_1
 try have c_4 : (9223372036854775807 < a1.size + 4) = False := eq_false (Nat.not_lt.2 c_1)
 clear c_1
 obtain ⟨⟨t_1, t_2⟩, A_2, H⟩ := ob_ H
 try dsimp only at H
 have HC_1 := a_ H
 clear H
 go_enter Try.func47, Try.ntmps47
 go_upto_if 21 with (first | ((with_reducible refine gd_ 3 ?_); refine bz_ 3 #[.slice A0_0 l0_0.length c0_0, .bool a0_1, .int .i64 a0_2] 24 ?_; intro gb_1 hg w_1 BK_1 hb; replace HO_1 := a_ (Kd.V_below (Kd.V_elderB (by refine vq_ ?_; exact HO_1.out) gb_1 (Nat.le_of_eq hg.symm)) hb); have GE_1 := a_ (bs_0 hg HB); replace HB := hB_ (bl_ HB) hb; clear hb hg) | ((with_reducible refine gd_ 6 ?_); refine bz_ 6 #[.slice none 0 0, .bool false, .int .i64 0] 24 ?_; intro gb_2 hg w_2 BK_2 hb; replace HO_1 := a_ (Kd.V_below (Kd.V_elderB (by refine vq_ ?_; exact HO_1.out) gb_2 (Nat.le_of_eq hg.symm)) hb); have GE_2 := a_ (bs_1 hg HB GE_1); replace HB := hB_ (bl_1 HB GE_1) hb; have NB_1 := nB_ hg BK_1; have NB_2 := nC_ hg BK_1; replace BK_1 := bB_ BK_1 hb; clear hb hg; have := NB_1.out; have := NB_2.out; obtain ⟨_, _, _, _, _, _⟩ := c3_ BK_1) | ((with_reducible refine gk_ 41 ?_); refine gl_ (some 17) Try.func41 #[.agg #[.slice A0_0 l0_0.length c0_0, .bool a0_1, .int .i64 a0_2], .string (a1 ++ (⟨#[46, 116, 109, 112]⟩ : ByteArray))] ?_; (with_reducible refine (gafferref02_Read.calls _ _ _ _ _ _ _ _ _ _ ?side1 ?side2 A_2.out).mono ?_); (case side1 => exact cl_ ((Kd.V_reads' HO_1.out).2.2)); (case side2 => exact (Kd.V_reads' HO_1.out).2.1); rintro e w_3 ⟨rfl, hb⟩; refine ⟨_, rfl, ?_⟩; replace HO_1 := a_ (Kd.V_below (by refine vq_ ?_; exact HO_1.out) hb); replace BK_1 := bB_ BK_1 hb; replace BK_2 := bB_ BK_2 hb; replace HB := hB_ (bl_2 HB GE_1 GE_2) hb; (try clear hb)))
 (try simp only [Act.put, List.setIfInBounds_toArray, List.set_cons_zero, List.set_cons_succ])
 go_cut [9] (fun v9 wc => ∃ (kq : Nat) (x9_5 : Int) (x626000_5 : List (S71)) (x626001_5 : Bool) (x626002_5 : Int) (u626000 : Value), v9 = .int .i64 x9_5 ∧ Aside0 (gafferref04_Put.j0 kq a1 a2 (a1 ++ (⟨#[46, 116, 109, 112]⟩ : ByteArray)) x9_5 x626000_5 x626001_5 x626002_5 = some (r1, r2, r3, r4)) ∧ Aside0 (kq ≤ k) ∧ Aside0 (Kd.V k71 71 wc w.heap.size (fun k_ => (P0_0_ k_ ∨ w.heap.size ≤ k_) ∧ k_ ≠ gb_1 ∧ k_ ≠ gb_2) u626000 x626000_5) ∧ Aside0 (wc.heap[gb_1]? = some (.cells #[u626000, .bool x626001_5, .int .i64 x626002_5] 24 (0, 0))) ∧ Aside0 (wc.heap[gb_2]? = some (.cells #[(.slice none 0 0), .bool false, .int .i64 0] 24 (0, 0))) ∧ Aside0 (Below w.heap.size w wc))
 case first =>
  have H := HC_1.out
  clear HC_1
  by_cases c_5 : t_2 = 0
  rotate_left
  focus
   rw [if_neg c_5] at H
   obtain ⟨c_6, c_7⟩ := bn_ c_5
   (first | rw [c_6] | (simp only [i64_w, i32_w]; rw [c_6]) | skip)
   have H' := a_ H
   clear H
   have L0_ := trivial
  rotate_left
  rw [if_pos c_5] at H
  obtain ⟨c_6, c_7⟩ := be_ c_5
  clear c_5
  (first | rw [c_6] | (simp only [i64_w, i32_w]; rw [c_6]) | skip)
  obtain ⟨⟨t_3, t_4, t_5, t_6⟩, A_4, H⟩ := ob_ H
  try dsimp only at H
  have H' := a_ H
  clear H
  have := NB_1.out
  have := NB_2.out
  obtain ⟨_, _, _, _, _, _⟩ := c3_ BK_1
  have L1_ := trivial
  all_goals
   first
   | (have _ := L0_
      go_wp2
      go_meet
      case rel => exact ⟨_, (0), (l0_0), (a0_1), (a0_2), (.slice A0_0 l0_0.length c0_0), fz_, H', ⟨by first | omega | exact Nat.le_refl _⟩, ⟨by refine vq_ ?_; exact Kd.V_mono HO_1.out (fun _ hk => ⟨hk.1.1, ⟨hk.1.2, hk.2⟩⟩)⟩, ⟨bk_ BK_1⟩, ⟨bk_ BK_2⟩, ⟨bl_2 HB GE_1 GE_2⟩⟩)
   | (have _ := L1_
      go_wp2_with ((with_reducible refine gk_ 75 ?_); refine gl_ (some 25) Try.func75 #[.agg #[.slice A0_0 l0_0.length c0_0, .bool a0_1, .int .i64 a0_2], .string (a1 ++ (⟨#[46, 116, 109, 112]⟩ : ByteArray))] ?_; (with_reducible refine (gafferref02_Drop.calls _ _ _ _ _ _ _ _ _ _ _ _ ?side1 ?side2 A_4.out).mono ?_); (case side1 => exact cl_ ((Kd.V_reads' HO_1.out).2.2)); (case side2 => exact (Kd.V_reads' HO_1.out).2.1); rintro e w_4 ⟨v_1, rfl, ho_1, hb⟩; refine ⟨_, rfl, ?_⟩; replace HO_1 := a_ (Kd.V_elder' (by refine vq_ ?_; exact HO_1.out) (Kd.R_base ho_1) hb); have HO_2 := a_ (Kd.R_lower (Kd.R_newM (M := fun k_ => (w.heap.size ≤ k_)) ho_1 (below_size (bl_2 HB GE_1 GE_2)) (fun k_ h_ => h_)) (below_size (bl_2 HB GE_1 GE_2))); replace BK_1 := bB_ BK_1 hb; replace BK_2 := bB_ BK_2 hb; replace HB := hB_ (bl_2 HB GE_1 GE_2) hb; (try clear hb); (try clear ho_1); obtain ⟨Ao_1, co_1, eo_1⟩ := Kd.R_slice HO_2.out; subst eo_1; obtain ⟨_, _, _, _, _, _⟩ := c3_ BK_1)
      go_meet
      case rel => exact ⟨_, (t_6), (t_3), (t_4), (t_5), (.slice Ao_1 t_3.length co_1), fz_, H', ⟨by first | omega | exact Nat.le_refl _⟩, ⟨Kd.V_mono (ok := (fun k_ => (((w.heap.size ≤ k_)) ∧ (k_ ≠ gb_1 ∧ k_ ≠ gb_2)))) (Kd.R_V (by refine rq_ ?_; exact Kd.R_mono (Kd.R_far (p := ⟨gb_1, 2, none⟩) (Kd.R_far (p := ⟨gb_1, 1, none⟩) (Kd.R_far (p := ⟨gb_1, 0, none⟩) (Kd.R_types (Kd.R_types (Kd.R_types HO_2.out BK_1.out (by decide)) BK_2.out (by decide)) BK_1.out (by decide)) (fun _ hk => hk.2) (.slice Ao_1 t_3.length co_1)) (fun _ hk => hk.2) (.bool t_4)) (fun _ hk => hk.2) (.int .i64 t_5)) (fun _ hk => ⟨hk.1.1.1.1, ⟨hk.1.1.2, hk.1.2⟩⟩))) (fun k_ hk => by first | exact ⟨(.inr (hk.1)), hk.2⟩ | exact (.inr (hk)))⟩, ⟨by refine bq_ ?_; refine blk_put (cs := #[.slice Ao_1 t_3.length co_1, .bool t_4, .int .i64 a0_2]) ?_ 2 _ rfl; refine bq_ ?_; refine blk_put (cs := #[.slice Ao_1 t_3.length co_1, .bool a0_1, .int .i64 a0_2]) ?_ 1 _ rfl; refine bq_ ?_; refine blk_put (cs := #[.slice A0_0 l0_0.length c0_0, .bool a0_1, .int .i64 a0_2]) ?_ 0 _ rfl; refine bq_ ?_; exact BK_1.out⟩, ⟨by refine bq_ ?_; refine blk_far ?_ NB_2.out _; refine bq_ ?_; refine blk_far ?_ NB_2.out _; refine bq_ ?_; refine blk_far ?_ NB_2.out _; refine bq_ ?_; exact BK_2.out⟩, ⟨bl_2 HB GE_1 GE_2⟩⟩)
 case rest =>
  clear HC_1
  try clear c_1
  try clear c_2
  try clear c_3
  try clear c_4
  obtain ⟨kq, x_1, x_2, x_3, x_4, u_1, rfl, HA, HJ_1, HO_2, BK_1, BK_2, HB⟩ := hcut
  cases kq with
  | zero => exact absurd HA.out (by simp [gafferref04_Put.j0])
  | succ kj5 =>
   have H := HA.out
   clear HA
   simp only [gafferref04_Put.j0] at H
   have HC_2 := a_ H
   clear H
   go_upto_if 29 with (fail)
   go_cut [9] (fun v9 wc => ∃ (kq : Nat) (x9_18 : Int) (x626000_18 : List (S71)) (x626001_18 : Bool) (x626002_18 : Int) (u_1 : Value), v9 = .int .i64 x9_18 ∧ Aside0 (gafferref04_Put.j1 kq a1 (a1 ++ (⟨#[46, 116, 109, 112]⟩ : ByteArray)) x9_18 x626000_18 x626001_18 x626002_18 = some (r1, r2, r3, r4)) ∧ Aside0 (kq ≤ kj5) ∧ Aside0 (Kd.V k71 71 wc w.heap.size (fun k_ => (P0_0_ k_ ∨ w.heap.size ≤ k_) ∧ k_ ≠ gb_1 ∧ k_ ≠ gb_2) u_1 x626000_18) ∧ Aside0 (wc.heap[gb_1]? = some (.cells #[u_1, .bool x626001_18, .int .i64 x626002_18] 24 (0, 0))) ∧ Aside0 (wc.heap[gb_2]? = some (.cells #[(.slice none 0 0), .bool false, .int .i64 0] 24 (0, 0))) ∧ Aside0 (Below w.heap.size w wc))
   case first =>
    have H := HC_2.out
    clear HC_2
    by_cases c_6 : x_1 = 0
    rotate_left
    ·rw [if_neg c_6] at H
     obtain ⟨c_7, c_8⟩ := bn_ c_6
     (first | rw [c_7] | (simp only [i64_w, i32_w]; rw [c_7]) | skip)
     have H' := a_ H
     clear H
     go_wp2
     go_meet
     case rel => exact ⟨_, (x_1), (x_2), (x_3), (x_4), (u_1), fz_, H', ⟨by have := HJ_1.out; first | omega | exact Nat.le_refl _⟩, ⟨by refine vq_ ?_; exact HO_2.out⟩, ⟨bk_ BK_1⟩, ⟨bk_ BK_2⟩, ⟨bl_2 HB GE_1 GE_2⟩⟩
    rw [if_pos c_6] at H
    obtain ⟨c_7, c_8⟩ := be_ c_6
    clear c_6
    (first | rw [c_7] | (simp only [i64_w, i32_w]; rw [c_7]) | skip)
    obtain ⟨⟨t_3, t_4, t_5, t_6⟩, A_4, H⟩ := ob_ H
    try dsimp only at H
    have H' := a_ H
    clear H
    have := NB_1.out
    have := NB_2.out
    obtain ⟨_, _, _, _, _, _⟩ := c3_ BK_1
    obtain ⟨Ao_1, co_1, eo_1⟩ := Kd.V_slice HO_2.out
    subst eo_1
    go_wp2_with (first | ((with_reducible refine gk_ 76 ?_); refine gl_ (some 34) Try.func76 #[.agg #[.slice Ao_1 x_2.length co_1, .bool x_3, .int .i64 x_4], .string (a1 ++ (⟨#[46, 116, 109, 112]⟩ : ByteArray)), .string a2] ?_; (with_reducible refine (gafferref02_Add.calls _ _ _ _ _ _ _ _ _ _ _ _ _ ?side1 ?side2 A_4.out).mono ?_); (case side1 => exact cl_ ((Kd.V_reads' HO_2.out).2.2)); (case side2 => exact (Kd.V_reads' HO_2.out).2.1); rintro e w_4 ⟨v_1, rfl, ho_1, hb⟩; refine ⟨_, rfl, ?_⟩; replace HO_2 := a_ (Kd.V_elder' (by refine vq_ ?_; exact HO_2.out) (Kd.R_base ho_1) hb); have HO_3 := a_ (Kd.R_lower (Kd.R_newM (M := fun k_ => (w.heap.size ≤ k_)) ho_1 (below_size (bl_2 HB GE_1 GE_2)) (fun k_ h_ => h_)) (below_size (bl_2 HB GE_1 GE_2))); replace BK_1 := bB_ BK_1 hb; replace BK_2 := bB_ BK_2 hb; replace HB := hB_ (bl_2 HB GE_1 GE_2) hb; (try clear hb); (try clear ho_1); obtain ⟨Ao_2, co_2, eo_2⟩ := Kd.R_slice HO_3.out; subst eo_2; obtain ⟨_, _, _, _, _, _⟩ := c3_ BK_1))
    go_meet
    case rel => exact ⟨_, (t_6), (t_3), (t_4), (t_5), (.slice Ao_2 t_3.length co_2), fz_, H', ⟨by have := HJ_1.out; first | omega | exact Nat.le_refl _⟩, ⟨Kd.V_mono (ok := (fun k_ => (((w.heap.size ≤ k_)) ∧ (k_ ≠ gb_1 ∧ k_ ≠ gb_2)))) (Kd.R_V (by refine rq_ ?_; exact Kd.R_mono (Kd.R_far (p := ⟨gb_1, 2, none⟩) (Kd.R_far (p := ⟨gb_1, 1, none⟩) (Kd.R_far (p := ⟨gb_1, 0, none⟩) (Kd.R_types (Kd.R_types (Kd.R_types HO_3.out BK_1.out (by decide)) BK_2.out (by decide)) BK_1.out (by decide)) (fun _ hk => hk.2) (.slice Ao_2 t_3.length co_2)) (fun _ hk => hk.2) (.bool t_4)) (fun _ hk => hk.2) (.int .i64 t_5)) (fun _ hk => ⟨hk.1.1.1.1, ⟨hk.1.1.2, hk.1.2⟩⟩))) (fun k_ hk => by first | exact ⟨(.inr (hk.1)), hk.2⟩ | exact (.inr (hk)))⟩, ⟨by refine bq_ ?_; refine blk_put (cs := #[.slice Ao_2 t_3.length co_2, .bool t_4, .int .i64 x_4]) ?_ 2 _ rfl; refine bq_ ?_; refine blk_put (cs := #[.slice Ao_2 t_3.length co_2, .bool x_3, .int .i64 x_4]) ?_ 1 _ rfl; refine bq_ ?_; refine blk_put (cs := #[.slice Ao_1 x_2.length co_1, .bool x_3, .int .i64 x_4]) ?_ 0 _ rfl; refine bq_ ?_; exact BK_1.out⟩, ⟨by refine bq_ ?_; refine blk_far ?_ NB_2.out _; refine bq_ ?_; refine blk_far ?_ NB_2.out _; refine bq_ ?_; refine blk_far ?_ NB_2.out _; refine bq_ ?_; exact BK_2.out⟩, ⟨bl_2 HB GE_1 GE_2⟩⟩
   case rest =>
    clear HC_2
    try clear c_1
    try clear c_2
    try clear c_3
    try clear c_4
    obtain ⟨kq, x_5, x_6, x_7, x_8, u_1, rfl, HA, HJ_2, HO_2, BK_1, BK_2, HB⟩ := hcut
    cases kq with
    | zero => exact absurd HA.out (by simp [gafferref04_Put.j1])
    | succ kj18 =>
     have H := HA.out
     clear HA
     simp only [gafferref04_Put.j1] at H
     by_cases c_9 : x_5 = 0
     rotate_left
     ·rw [if_neg c_9] at H
      obtain ⟨c_10, c_11⟩ := bn_ c_9
      obtain ⟨rfl, rfl, rfl, rfl⟩ := so4_ H
      have := NB_1.out
      have := NB_2.out
      obtain ⟨_, _, _, _, _, _⟩ := c3_ BK_1
      obtain ⟨Ao_3, co_3, eo_3⟩ := Kd.V_slice HO_2.out
      subst eo_3
      obtain ⟨_, _, _, _, _, _⟩ := c3_ BK_2
      go_wp2
      refine bodyPost_ret (results_ct rfl _ _ gb_2 24 #[.slice Ao_3 x_6.length co_3, .bool x_7, .int .i64 x_8] (0, 0) _ rfl (bp_0 BK_2) Try.underlying24 rfl (by kernel_rfl)) rfl ?_
      exact ⟨_, fz_, by refine vq_ ?_; exact Kd.V_mono (Kd.V_far (p := ⟨gb_2, 2, none⟩) (Kd.V_far (p := ⟨gb_2, 1, none⟩) (Kd.V_far (p := ⟨gb_2, 0, none⟩) (Kd.V_mono HO_2.out (fun k_ hk => (⟨hk, hk.2.2⟩ : _ ∧ k_ ≠ gb_2))) (fun _ hk => hk.2) (.slice Ao_3 x_6.length co_3)) (fun _ hk => hk.2) (.bool x_7)) (fun _ hk => hk.2) (.int .i64 x_8)) (fun _ hk => hk.1.1), bl_2 HB GE_1 GE_2⟩
     rw [if_pos c_9] at H
     obtain ⟨c_10, c_11⟩ := be_ c_9
     clear c_9
     obtain ⟨⟨t_7, t_8, t_9, t_10⟩, A_6, H⟩ := ob_ H
     try dsimp only at H
     by_cases c_12 : t_10 = 0
     rotate_left
     ·rw [if_neg c_12] at H
      obtain ⟨c_13, c_14⟩ := bn_ c_12
      obtain ⟨rfl, rfl, rfl, rfl⟩ := so4_ H
      have := NB_1.out
      have := NB_2.out
      obtain ⟨_, _, _, _, _, _⟩ := c3_ BK_1
      obtain ⟨Ao_4, co_4, eo_4⟩ := Kd.V_slice HO_2.out
      subst eo_4
      go_wp2_with (first | ((with_reducible refine gk_ 77 ?_); refine gl_ (some 42) Try.func77 #[.agg #[.slice Ao_4 x_6.length co_4, .bool x_7, .int .i64 x_8], .string (a1 ++ (⟨#[46, 116, 109, 112]⟩ : ByteArray))] ?_; (with_reducible refine (gafferref02_Sync.calls _ _ _ _ _ _ _ _ _ _ _ _ ?side1 ?side2 A_6.out).mono ?_); (case side1 => exact cl_ ((Kd.V_reads' HO_2.out).2.2)); (case side2 => exact (Kd.V_reads' HO_2.out).2.1); rintro e w_5 ⟨v_2, rfl, ho_1, hb⟩; refine ⟨_, rfl, ?_⟩; replace HO_2 := a_ (Kd.V_elder' (by refine vq_ ?_; exact HO_2.out) (Kd.R_base ho_1) hb); have HO_4 := a_ (Kd.R_lower (Kd.R_newM (M := fun k_ => (w.heap.size ≤ k_)) ho_1 (below_size (bl_2 HB GE_1 GE_2)) (fun k_ h_ => h_)) (below_size (bl_2 HB GE_1 GE_2))); replace BK_1 := bB_ BK_1 hb; replace BK_2 := bB_ BK_2 hb; replace HB := hB_ (bl_2 HB GE_1 GE_2) hb; (try clear hb); (try clear ho_1); obtain ⟨Ao_5, co_5, eo_5⟩ := Kd.R_slice HO_4.out; subst eo_5; obtain ⟨_, _, _, _, _, _⟩ := c3_ BK_1; obtain ⟨_, _, _, _, _, _⟩ := c3_ BK_2))
      refine bodyPost_ret (results_ct rfl _ _ gb_2 24 #[.slice Ao_5 t_7.length co_5, .bool t_8, .int .i64 t_9] (0, 0) _ rfl (bp_1 BK_2 NB_2) Try.underlying24 rfl (by kernel_rfl)) rfl ?_
      exact ⟨_, fz_, Kd.V_mono (ok := (fun k_ => ((w.heap.size ≤ k_)))) (Kd.R_V (by refine rq_ ?_; exact Kd.R_mono (Kd.R_far (p := ⟨gb_2, 2, none⟩) (Kd.R_far (p := ⟨gb_2, 1, none⟩) (Kd.R_far (p := ⟨gb_2, 0, none⟩) (Kd.R_far (p := ⟨gb_1, 2, none⟩) (Kd.R_far (p := ⟨gb_1, 1, none⟩) (Kd.R_far (p := ⟨gb_1, 0, none⟩) (Kd.R_types (Kd.R_types HO_4.out BK_1.out (by decide)) BK_2.out (by decide)) (fun _ hk => hk.1.2) (.slice Ao_5 t_7.length co_5)) (fun _ hk => hk.1.2) (.bool t_8)) (fun _ hk => hk.1.2) (.int .i64 t_9)) (fun _ hk => hk.2) (.slice Ao_5 t_7.length co_5)) (fun _ hk => hk.2) (.bool t_8)) (fun _ hk => hk.2) (.int .i64 t_9)) (fun _ hk => hk.1.1.1))) (fun k_ hk => by first | exact ⟨(.inr (hk.1)), hk.2⟩ | exact (.inr (hk))), bl_2 HB GE_1 GE_2⟩
     rw [if_pos c_12] at H
     obtain ⟨c_13, c_14⟩ := be_ c_12
     clear c_12
     obtain ⟨⟨t_11, t_12, t_13, t_14⟩, A_8, H⟩ := ob_ H
     try dsimp only at H
     obtain ⟨rfl, rfl, rfl, rfl⟩ := so4_ H
     have := NB_1.out
     have := NB_2.out
     obtain ⟨_, _, _, _, _, _⟩ := c3_ BK_1
     obtain ⟨Ao_6, co_6, eo_6⟩ := Kd.V_slice HO_2.out
     subst eo_6
     go_wp2_with (first | ((with_reducible refine gk_ 77 ?_); refine gl_ (some 42) Try.func77 #[.agg #[.slice Ao_6 x_6.length co_6, .bool x_7, .int .i64 x_8], .string (a1 ++ (⟨#[46, 116, 109, 112]⟩ : ByteArray))] ?_; (with_reducible refine (gafferref02_Sync.calls _ _ _ _ _ _ _ _ _ _ _ _ ?side1 ?side2 A_6.out).mono ?_); (case side1 => exact cl_ ((Kd.V_reads' HO_2.out).2.2)); (case side2 => exact (Kd.V_reads' HO_2.out).2.1); rintro e w_6 ⟨v_2, rfl, ho_1, hb⟩; refine ⟨_, rfl, ?_⟩; replace HO_2 := a_ (Kd.V_elder' (by refine vq_ ?_; exact HO_2.out) (Kd.R_base ho_1) hb); have HO_4 := a_ (Kd.R_lower (Kd.R_newM (M := fun k_ => (w.heap.size ≤ k_)) ho_1 (below_size (bl_2 HB GE_1 GE_2)) (fun k_ h_ => h_)) (below_size (bl_2 HB GE_1 GE_2))); replace BK_1 := bB_ BK_1 hb; replace BK_2 := bB_ BK_2 hb; replace HB := hB_ (bl_2 HB GE_1 GE_2) hb; (try clear hb); (try clear ho_1); obtain ⟨Ao_7, co_7, eo_7⟩ := Kd.R_slice HO_4.out; subst eo_7; obtain ⟨_, _, _, _, _, _⟩ := c3_ BK_1) | ((with_reducible refine gk_ 78 ?_); refine gl_ (some 51) Try.func78 #[.agg #[.slice Ao_7 t_7.length co_7, .bool t_8, .int .i64 t_9], .string (a1 ++ (⟨#[46, 116, 109, 112]⟩ : ByteArray)), .string a1] ?_; (with_reducible refine (gafferref02_Swap.calls _ _ _ _ _ _ _ _ _ _ _ _ _ ?side1 ?side2 A_8.out).mono ?_); (case side1 => refine (Kd.R_reads' (e := 71) (base := w.heap.size) (ok := fun k_ => ((w.heap.size ≤ k_) ∧ True)) (n := t_7.length) (c := co_7) ?_).2.2; exact (by refine rq_ ?_; exact (rf1_ HO_4 BK_1))); (case side2 => exact (Kd.R_reads' HO_4.out).2.1); rintro e w_7 ⟨v_3, rfl, ho_1, hb⟩; refine ⟨_, rfl, ?_⟩; replace HO_2 := a_ (Kd.V_elder' (by refine vq_ ?_; exact (Kd.V_mono (Kd.V_far (p := ⟨gb_1, 2, none⟩) (Kd.V_far (p := ⟨gb_1, 1, none⟩) (Kd.V_far (p := ⟨gb_1, 0, none⟩) (Kd.V_mono HO_2.out (fun k_ hk => (⟨hk, hk.1.2.1⟩ : _ ∧ k_ ≠ gb_1))) (fun _ hk => hk.2) (.slice Ao_7 t_7.length co_7)) (fun _ hk => hk.2) (.bool t_8)) (fun _ hk => hk.2) (.int .i64 t_9)) (fun _ h_ => h_.1))) (Kd.R_base ho_1) hb); have HO_5 := a_ (Kd.R_lower (Kd.R_new' (Kd.R_newM (M := fun k_ => (w.heap.size ≤ k_)) ho_1 (below_size (bl_2 HB GE_1 GE_2)) (fun k_ h_ => h_)) (Kd.R_lt (by refine rq_ ?_; exact (rf1_ HO_4 BK_1)))) (below_size (bl_2 HB GE_1 GE_2))); replace HO_4 := a_ (Kd.R_elder' (by refine rq_ ?_; exact (rf1_ HO_4 BK_1)) (Kd.R_base ho_1) hb); replace BK_1 := bw_0 #[.slice Ao_7 t_7.length co_7, .bool t_8, .int .i64 t_9] BK_1 hb; replace BK_2 := bw_1 #[.slice none 0 0, .bool false, .int .i64 0] BK_2 NB_2 hb; replace HB := hB_ (bl_2 HB GE_1 GE_2) hb; (try clear hb); (try clear ho_1); obtain ⟨Ao_8, co_8, eo_8⟩ := Kd.R_slice HO_5.out; subst eo_8; obtain ⟨_, _, _, _, _, _⟩ := c3_ BK_1; obtain ⟨_, _, _, _, _, _⟩ := c3_ BK_2))
     refine bodyPost_ret (results_ct rfl _ _ gb_2 24 #[.slice Ao_8 t_11.length co_8, .bool t_12, .int .i64 t_13] (0, 0) _ rfl (bp_1 BK_2 NB_2) Try.underlying24 rfl (by kernel_rfl)) rfl ?_
     exact ⟨_, fz_, Kd.V_mono (ok := (fun k_ => ((w.heap.size ≤ k_)))) (Kd.R_V (by refine rq_ ?_; exact Kd.R_mono (Kd.R_far (p := ⟨gb_2, 2, none⟩) (Kd.R_far (p := ⟨gb_2, 1, none⟩) (Kd.R_far (p := ⟨gb_2, 0, none⟩) (Kd.R_far (p := ⟨gb_1, 2, none⟩) (Kd.R_far (p := ⟨gb_1, 1, none⟩) (Kd.R_far (p := ⟨gb_1, 0, none⟩) (Kd.R_types (Kd.R_types HO_5.out BK_1.out (by decide)) BK_2.out (by decide)) (fun _ hk => hk.1.2) (.slice Ao_8 t_11.length co_8)) (fun _ hk => hk.1.2) (.bool t_12)) (fun _ hk => hk.1.2) (.int .i64 t_13)) (fun _ hk => hk.2) (.slice Ao_8 t_11.length co_8)) (fun _ hk => hk.2) (.bool t_12)) (fun _ hk => hk.2) (.int .i64 t_13)) (fun _ hk => hk.1.1.1.1))) (fun k_ hk => by first | exact ⟨(.inr (hk.1)), hk.2⟩ | exact (.inr (hk))), bl_2 HB GE_1 GE_2⟩

def gafferref01_Number.l0 : Nat → Int → List Int → Option (ByteArray)
 | 0, _, _ => none
 | k + 1, x0, x3 => if x0 > 0 then ((some (([(Int.tmod x0 256) % 256] : List Int) : List Int)).bind fun y653 => (if y653.length + x3.length < 140737488355328 then (gafferref01_Number.l0 k (IntKind.u64.wrap (Int.tdiv x0 256)) (y653 ++ x3)) else (none))) else ((some (([((x3.length : Int)) % 256] : List Int) : List Int)).bind fun y659 => (if y659.length + x3.length < 140737488355328 then (some (strOfNums (y659 ++ x3))) else (none)))
def gafferref01_Number.f (k : Nat) (a0 : Int) : Option (ByteArray) := gafferref01_Number.l0 k a0 ([] : List Int)
theorem gafferref01_Number.mono_l : ∀ k, (∀ y0 y1, LeO (gafferref01_Number.l0 k y0 y1) (gafferref01_Number.l0 (k + 1) y0 y1))
 | 0 => fun _ _ r h => by simp [gafferref01_Number.l0] at h
 | k + 1 => by
  have ih0 := gafferref01_Number.mono_l k
  ·intro y0 y1
   unfold gafferref01_Number.l0
   repeat' with_reducible first | apply ih0 | apply LeO.refl | apply LeO.none | apply LeO.ite | refine LeO.bind ?_ (fun _ => ?_)
theorem gafferref01_Number.mono : ∀ a0 k, LeO (gafferref01_Number.f k a0) (gafferref01_Number.f (k + 1) a0) := by
 intro a0 k
 have ih0 := gafferref01_Number.mono_l k
 unfold gafferref01_Number.f
 repeat' with_reducible first | apply ih0 | apply LeO.refl | apply LeO.none | apply LeO.ite | refine LeO.bind ?_ (fun _ => ?_)
theorem gafferref01_Number.calls (k : Nat) (a0 : Int) (r : ByteArray) (w : World) (h : gafferref01_Number.f k a0 = some r) :
  Calls Try.prog 66 #[.int .u64 a0] w fun e w' => e = .returned (.string r) ∧ Below w.heap.size w w' := by
 have HB := a_ (Below.refl w.heap.size w)
 have H := h
 unfold gafferref01_Number.f at H
 clear h
 have H' := a_ H
 clear H
 go_enter Try.func66, Try.ntmps66
 go_wp2
 go_loopg [0, 3] k (fun kq v0 v3 w' => ∃ (x0_1 : Int) (x3_1 : List Int), v0 = .int .u64 x0_1 ∧ Aside0 (gafferref01_Number.l0 kq x0_1 x3_1 = some r) ∧ Aside0 (kq ≤ k) ∧ Aside0 (Kd.R (Kd.int .u8) 5 w' w.heap.size (fun _ => True) v3 x3_1) ∧ Aside0 (Below w.heap.size w w'))
 case atStart => exact ⟨(a0), (([] : List Int)), fz_, H', ⟨Nat.le_refl _⟩, ⟨nl_⟩, ⟨bl_ HB⟩⟩
 case round =>
  clear H'
  obtain ⟨x_1, x_2, rfl, HA, HK_1, HO_1, HB⟩ := hrel
  cases gk with
  | zero => exact absurd HA.out (by simp [gafferref01_Number.l0])
  | succ k1 =>
   have H := HA.out
   clear HA
   simp only [gafferref01_Number.l0] at H
   by_cases c_1 : x_1 > 0
   rotate_left
   ·rw [if_neg c_1] at H
    have c_2 : decide (0 < x_1) = false := decide_eq_false c_1
    clear c_1
    obtain ⟨y_1, hy_1⟩ : ∃ y_ : List Int, y_ = (([((x_2.length : Int)) % 256] : List Int)) := ⟨_, rfl⟩
    replace H : (if y_1.length + x_2.length < 140737488355328 then (some (strOfNums (y_1 ++ x_2))) else (none)) = some r := by first | (rw [hy_1]; with_reducible exact H) | (have H_1 := (Option.bind_some _ _).symm.trans H; rw [hy_1]; with_reducible exact H_1) | (have H_1 := (Option.bind_some _ _).symm.trans H; with_reducible exact H_1) | with_reducible exact H | (rw [hy_1]; exact H) | exact H
    have Ny_1 := a_ hy_1
    clear hy_1
    replace H := iq_ H
    obtain ⟨c_3, H⟩ := H
    have LMc_1 := a_ c_3
    clear c_3
    obtain ⟨y_2, hy_2⟩ : ∃ y_ : List Int, y_ = (y_1 ++ x_2) := ⟨_, rfl⟩
    replace H : (some (strOfNums y_2)) = some r := by first | (rw [hy_2]; with_reducible exact H) | (have H_1 := (Option.bind_some _ _).symm.trans H; rw [hy_2]; with_reducible exact H_1) | (have H_1 := (Option.bind_some _ _).symm.trans H; with_reducible exact H_1) | with_reducible exact H | (rw [hy_2]; exact H) | exact H
    have Ny_2 := a_ hy_2
    clear hy_2
    obtain rfl := Option.some.inj H
    obtain ⟨Ao_1, co_1, eo_1⟩ := Kd.R_slice HO_1.out
    subst eo_1
    go_wp2_with (first | ((with_reducible refine gd_ 17 ?_); refine Kd.R_lit (Kd.int .u8) _ 5 ?hg (N := 17) ?hd (xs := ([((x_2.length : Int)) % 256] : List Int)) (inner := [.int .u8 (((x_2.length : Int)) % 256)]) (ok := fun _ => True) (okp := fun _ => True) ?hr ?hp (fun _ hk => hk) trivial (Below.refl _ _) (Nat.le_refl _) (by simp) ?_; (case hd => rfl); (case hg => rfl); (case hr => first | (go_simp; done) | (go_simp; rfl)); (case hp => exact (Reps.one (show Kd.M (Kd.int .u8) _ _ _ (((x_2.length : Int)) % 256) [.int .u8 (((x_2.length : Int)) % 256)] from rfl) (Reps.none _ _))); intro v_1 w_1 ho_1 hb hg_ hnew_; clear hg_ hnew_; (first | rw [← Ny_1.out] at ho_1 | (simp only [Int.reduceToNat] at ho_1; rw [← Ny_1.out] at ho_1)); have HO_2 := a_ (Kd.R_lower (Kd.R_new' ho_1 (Kd.R_lt (by refine rq_ ?_; exact HO_1.out))) (below_size (bl_ HB))); replace HO_1 := a_ (Kd.R_elder' (by refine rq_ ?_; exact HO_1.out) (Kd.R_base ho_1) hb); replace HB := hB_ (bl_ HB) hb; clear hb ho_1) | ((with_reducible refine gate_builtin (b := .append) (xs := #[.tmp 17, .tmp 18]) rfl ?_); at_builtin; refine Kd.R_append_rows (Kd.int .u8) (w0 := w) w.heap.size rfl (.tmp 17) (.tmp 18) 111 5 (.int .u8 0) 1 rfl Try.underlying111 info5 rfl (by decide) (by omega) v_1 y_1 x_2 _ _ _ (fun k_ => some k_ ≠ (.slice Ao_1 x_2.length co_1 : Value).ownBlock) (fun _ => False) rfl rfl ?aO ?aR (fun _ _ h => h) (fun _ h => h.elim) ?aF ?aB ?aS ?aL ?_; (case aR => exact cl_ ((Kd.R_reads' HO_1.out).2.2)); (case aB => exact (bl_ HB)); (case aF => exact (fun k_ hk => Kd.fresh' (Kd.R_lt (by refine rq_ ?_; exact HO_1.out)) k_ hk)); (case aO => exact (by refine rq_ ?_; exact Kd.R_mono HO_2.out (fun _ hk => hk.2))); (case aS => exact (below_size (bl_ HB))); (case aL => have := LMc_1.out; omega); intro v_2 w_2 ho hb hg hat; rw [← Ny_2.out] at ho; replace HO_1 := a_ (Kd.R_after (ok := (fun _ => True)) (by refine rq_ ?_; exact HO_1.out) hg hat); replace HB := a_ (hb); have HO_3 := a_ (ho); clear HO_2; clear ho hb hg hat; have hcv_1 := own_string (P := Try.prog) Try.underlying111 Try.underlying5 Try.underlying9 (Kd.own_of_R HO_3.out)))
    go_ret
    exact ⟨fz_, bl_ HB⟩
   rw [if_pos c_1] at H
   have c_2 : decide (0 < x_1) = true := decide_eq_true c_1
   clear c_1
   obtain ⟨y_3, hy_3⟩ : ∃ y_ : List Int, y_ = (([(Int.tmod x_1 256) % 256] : List Int)) := ⟨_, rfl⟩
   replace H : (if y_3.length + x_2.length < 140737488355328 then (gafferref01_Number.l0 k1 (IntKind.u64.wrap (Int.tdiv x_1 256)) (y_3 ++ x_2)) else (none)) = some r := by first | (rw [hy_3]; with_reducible exact H) | (have H_1 := (Option.bind_some _ _).symm.trans H; rw [hy_3]; with_reducible exact H_1) | (have H_1 := (Option.bind_some _ _).symm.trans H; with_reducible exact H_1) | with_reducible exact H | (rw [hy_3]; exact H) | exact H
   have Ny_3 := a_ hy_3
   clear hy_3
   replace H := iq_ H
   obtain ⟨c_4, H⟩ := H
   have LMc_2 := a_ c_4
   clear c_4
   obtain ⟨y_4, hy_4⟩ : ∃ y_ : List Int, y_ = (y_3 ++ x_2) := ⟨_, rfl⟩
   replace H : (gafferref01_Number.l0 k1 (IntKind.u64.wrap (Int.tdiv x_1 256)) y_4) = some r := by first | (rw [hy_4]; with_reducible exact H) | (have H_1 := (Option.bind_some _ _).symm.trans H; rw [hy_4]; with_reducible exact H_1) | (have H_1 := (Option.bind_some _ _).symm.trans H; with_reducible exact H_1) | with_reducible exact H | (rw [hy_4]; exact H) | exact H
   have Ny_4 := a_ hy_4
   clear hy_4
   have H' := a_ H
   clear H
   go_wp2_with (first | ((with_reducible refine gd_ 9 ?_); refine Kd.R_lit (Kd.int .u8) _ 5 ?hg (N := 9) ?hd (xs := ([(Int.tmod x_1 256) % 256] : List Int)) (inner := [.int .u8 ((Int.tmod x_1 256) % 256)]) (ok := fun _ => True) (okp := fun _ => True) ?hr ?hp (fun _ hk => hk) trivial (Below.refl _ _) (Nat.le_refl _) (by simp) ?_; (case hd => rfl); (case hg => rfl); (case hr => first | (go_simp; done) | (go_simp; rfl)); (case hp => exact (Reps.one (show Kd.M (Kd.int .u8) _ _ _ ((Int.tmod x_1 256) % 256) [.int .u8 ((Int.tmod x_1 256) % 256)] from rfl) (Reps.none _ _))); intro v_3 w_3 ho_2 hb hg_ hnew_; clear hg_ hnew_; (first | rw [← Ny_3.out] at ho_2 | (simp only [Int.reduceToNat] at ho_2; rw [← Ny_3.out] at ho_2)); have HO_4 := a_ (Kd.R_lower (Kd.R_new' ho_2 (Kd.R_lt (by refine rq_ ?_; exact HO_1.out))) (below_size (bl_ HB))); replace HO_1 := a_ (Kd.R_elder' (by refine rq_ ?_; exact HO_1.out) (Kd.R_base ho_2) hb); replace HB := hB_ (bl_ HB) hb; clear hb ho_2; obtain ⟨Ao_2, co_2, eo_2⟩ := Kd.R_slice HO_1.out; subst eo_2) | ((with_reducible refine gate_builtin (b := .append) (xs := #[.tmp 9, .tmp 10]) rfl ?_); at_builtin; refine Kd.R_append_rows (Kd.int .u8) (w0 := w) w.heap.size rfl (.tmp 9) (.tmp 10) 111 5 (.int .u8 0) 1 rfl Try.underlying111 info5 rfl (by decide) (by omega) v_3 y_3 x_2 _ _ _ (fun k_ => some k_ ≠ (.slice Ao_2 x_2.length co_2 : Value).ownBlock) (fun _ => False) rfl rfl ?aO ?aR (fun _ _ h => h) (fun _ h => h.elim) ?aF ?aB ?aS ?aL ?_; (case aR => exact cl_ ((Kd.R_reads' HO_1.out).2.2)); (case aB => exact (bl_ HB)); (case aF => exact (fun k_ hk => Kd.fresh' (Kd.R_lt (by refine rq_ ?_; exact HO_1.out)) k_ hk)); (case aO => exact (by refine rq_ ?_; exact Kd.R_mono HO_4.out (fun _ hk => hk.2))); (case aS => exact (below_size (bl_ HB))); (case aL => have := LMc_2.out; omega); intro v_4 w_4 ho hb hg hat; rw [← Ny_4.out] at ho; replace HO_1 := a_ (Kd.R_after (ok := (fun _ => True)) (by refine rq_ ?_; exact HO_1.out) hg hat); replace HB := a_ (hb); have HO_5 := a_ (ho); clear HO_4; clear ho hb hg hat))
   go_roundg k1
   case measure => have := HK_1.out; omega
   case rel => exact ⟨(IntKind.u64.wrap (Int.tdiv x_1 256)), (y_4), fz_, H', ⟨by have := HK_1.out; omega⟩, ⟨by refine rq_ ?_; exact Kd.R_mono HO_5.out (fun _ hk => trivial)⟩, ⟨bl_ HB⟩⟩

def gafferref03_Ints.l0 : Nat → ByteArray → List Int → Int → Int → Option (ByteArray)
 | 0, _, _, _, _ => none
 | k + 1, x3, x10, x11, x12 => if x12 < x11 then (if 0 ≤ x12 then (if x12 < (x10.length : Int) then ((gafferref01_Number.f k (IntKind.u64.wrap (rd x10 x12))).bind fun t667 => (if x3.size + t667.size ≤ 9223372036854775807 then (gafferref03_Ints.l0 k (x3 ++ t667) x10 x11 (wrap64 (x12 + 1))) else (none))) else (none)) else (none)) else (some x3)
def gafferref03_Ints.f (k : Nat) (l0 : List Int) : Option (ByteArray) := (gafferref01_Number.f k (IntKind.u64.wrap ((l0.length : Int)))).bind fun t665 => (gafferref03_Ints.l0 k t665 l0 (l0.length : Int) 0)
theorem gafferref03_Ints.mono_l : ∀ k, (∀ y0 y1 y2 y3, LeO (gafferref03_Ints.l0 k y0 y1 y2 y3) (gafferref03_Ints.l0 (k + 1) y0 y1 y2 y3))
 | 0 => fun _ _ _ _ r h => by simp [gafferref03_Ints.l0] at h
 | k + 1 => by
  have ih0 := gafferref03_Ints.mono_l k
  ·intro y0 y1 y2 y3
   unfold gafferref03_Ints.l0
   repeat' with_reducible first | apply ih0 | apply gafferref01_Number.mono | apply LeO.refl | apply LeO.none | apply LeO.ite | refine LeO.bind ?_ (fun _ => ?_)
theorem gafferref03_Ints.mono : ∀ a0 k, LeO (gafferref03_Ints.f k a0) (gafferref03_Ints.f (k + 1) a0) := by
 intro a0 k
 have ih0 := gafferref03_Ints.mono_l k
 unfold gafferref03_Ints.f
 repeat' with_reducible first | apply ih0 | apply gafferref01_Number.mono | apply LeO.refl | apply LeO.none | apply LeO.ite | refine LeO.bind ?_ (fun _ => ?_)
theorem gafferref03_Ints.calls (k : Nat) (A0 : Option Addr) (c0 : Nat) (l0 : List Int) (r : ByteArray) (w : World) (hr0 : Kd.C (Kd.int .i64) w A0 l0.length l0) (hc0 : l0.length ≤ c0) (h : gafferref03_Ints.f k l0 = some r) :
  Calls Try.prog 84 #[.slice A0 l0.length c0] w fun e w' => e = .returned (.string r) ∧ Below w.heap.size w w' := by
 have HR_1 := a_ hr0
 have HC_1 := a_ hc0
 clear hr0 hc0
 have HB := a_ (Below.refl w.heap.size w)
 have H := h
 unfold gafferref03_Ints.f at H
 clear h
 obtain ⟨t_1, A_2, H⟩ := ob_ H
 try dsimp only at H
 have H' := a_ H
 clear H
 go_enter Try.func84, Try.ntmps84
 go_wp2_with (first | ((with_reducible refine gk_ 66 ?_); refine gl_ (some 9) Try.func66 #[.int .u64 (IntKind.u64.wrap ((l0.length : Int)))] ?_; (with_reducible refine (gafferref01_Number.calls _ _ _ _ A_2.out).mono ?_); rintro e w_1 ⟨rfl, hb⟩; refine ⟨_, rfl, ?_⟩; replace HB := hB_ (bl_ HB) hb; (try clear hb)))
 go_loopg [3, 12] k (fun kq v3 v12 w' => ∃ (x3_1 : ByteArray) (x12_1 : Int), v3 = .string x3_1 ∧ v12 = .int .i64 x12_1 ∧ Aside0 (gafferref03_Ints.l0 kq x3_1 l0 (l0.length : Int) x12_1 = some r) ∧ Aside0 (kq ≤ k) ∧ Aside0 (Below w.heap.size w w'))
 case atStart => exact ⟨(t_1), (0), fz_, fz_, H', ⟨Nat.le_refl _⟩, ⟨bl_ HB⟩⟩
 case round =>
  clear H'
  obtain ⟨x_1, x_2, rfl, rfl, HA, HK_1, HB⟩ := hrel
  cases gk with
  | zero => exact absurd HA.out (by simp [gafferref03_Ints.l0])
  | succ k1 =>
   have H := HA.out
   clear HA
   simp only [gafferref03_Ints.l0] at H
   by_cases c_1 : x_2 < (l0.length : Int)
   rotate_left
   ·rw [if_neg c_1] at H
    have c_2 : decide (x_2 < (l0.length : Int)) = false := decide_eq_false c_1
    clear c_1
    obtain rfl := Option.some.inj H
    go_wp2
    go_ret
    exact ⟨fz_, bl_ HB⟩
   rw [if_pos c_1] at H
   have c_2 : decide (x_2 < (l0.length : Int)) = true := decide_eq_true c_1
   clear c_1
   replace H := ip_ H
   obtain ⟨-, c_4, H⟩ := H
   replace H := ip_ H
   obtain ⟨-, c_6, H⟩ := H
   obtain ⟨t_2, A_4, H⟩ := ob_ H
   try dsimp only at H
   replace H := iq_ H
   obtain ⟨c_7, H⟩ := H
   have c_8 := eq_true c_7
   have c_9 : decide (x_1.size + t_2.size ≤ 9223372036854775807) = true := decide_eq_true c_7
   try have c_10 : (9223372036854775807 < x_1.size + t_2.size) = False := eq_false (Nat.not_lt.2 c_7)
   clear c_7
   have H' := a_ H
   clear H
   have p_1 : 0 ≤ (x_2 : Int) := od_
   have q_1 : x_2 < (l0.length : Int) := od_
   obtain ⟨ad_1, e_1, hx_1⟩ := Kd.at_int HR_1.out x_2 p_1 q_1
   cases e_1
   replace hx_1 := hc_ HB hx_1
   replace p_1 := eq_true p_1
   replace q_1 := eq_true q_1
   go_wp2_with (first | ((with_reducible refine gk_ 66 ?_); refine gl_ (some 19) Try.func66 #[.int .u64 (IntKind.u64.wrap (rd l0 x_2))] ?_; (with_reducible refine (gafferref01_Number.calls _ _ _ _ A_4.out).mono ?_); rintro e w_2 ⟨rfl, hb⟩; refine ⟨_, rfl, ?_⟩; replace HB := hB_ (bl_ HB) hb; (try clear hb)))
   go_roundg k1
   case measure => have := HK_1.out; omega
   case rel => exact ⟨(x_1 ++ t_2), (wrap64 (x_2 + 1)), fz_, fz_, H', ⟨by have := HK_1.out; omega⟩, ⟨bl_ HB⟩⟩

def gafferref01_Text.f (k : Nat) (a0 : ByteArray) : Option (ByteArray) := (gafferref01_Number.f k (IntKind.u64.wrap ((a0.size : Int)))).bind fun t668 => (if t668.size + a0.size ≤ 9223372036854775807 then (some (t668 ++ a0)) else (none))
theorem gafferref01_Text.mono : ∀ a0 k, LeO (gafferref01_Text.f k a0) (gafferref01_Text.f (k + 1) a0) := by
 intro a0 k
 unfold gafferref01_Text.f
 repeat' with_reducible first | apply gafferref01_Number.mono | apply LeO.refl | apply LeO.none | apply LeO.ite | refine LeO.bind ?_ (fun _ => ?_)
theorem gafferref01_Text.calls (k : Nat) (a0 : ByteArray) (r : ByteArray) (w : World) (h : gafferref01_Text.f k a0 = some r) :
  Calls Try.prog 85 #[.string a0] w fun e w' => e = .returned (.string r) ∧ Below w.heap.size w w' := by
 have HB := a_ (Below.refl w.heap.size w)
 have H := h
 unfold gafferref01_Text.f at H
 clear h
 obtain ⟨t668, A2, H⟩ := ob_ H
 try dsimp only at H
 by_cases c3 : t668.size + a0.size ≤ 9223372036854775807
 rotate_left
 ·rw [if_neg c3] at H
  exact absurd H (by simp)


 rw [if_pos c3] at H
 have c3b0 := eq_true c3
 have c3b1 : decide (t668.size + a0.size ≤ 9223372036854775807) = true := decide_eq_true c3
 try have c3b2 : (9223372036854775807 < t668.size + a0.size) = False := eq_false (Nat.not_lt.2 c3)
 clear c3
 obtain rfl := Option.some.inj H
 go_enter Try.func85, Try.ntmps85
 go_wp2_with (first | ((with_reducible refine gk_ 66 ?_); refine gl_ (some 6) Try.func66 #[.int .u64 (IntKind.u64.wrap ((a0.size : Int)))] ?_; (with_reducible refine (gafferref01_Number.calls _ _ _ _ A2.out).mono ?_); rintro e w4 ⟨rfl, hb⟩; refine ⟨_, rfl, ?_⟩; replace HB := hB_ (bl_ HB) hb; (try clear hb)))
 go_ret
 exact ⟨fz_, bl_ HB⟩
def gafferref05_Bytes.f (k : Nat) (a0_0 : Int) (a0_1 : Int) (l0_2 : List Int) (a0_3 : ByteArray) : Option (ByteArray) := (gafferref01_Number.f k a0_0).bind fun t670 => ((gafferref01_Number.f k a0_1).bind fun t671 => (if t670.size + t671.size ≤ 9223372036854775807 then ((gafferref03_Ints.f k l0_2).bind fun t672 => (if (t670 ++ t671).size + t672.size ≤ 9223372036854775807 then ((gafferref01_Text.f k a0_3).bind fun t673 => (if ((t670 ++ t671) ++ t672).size + t673.size ≤ 9223372036854775807 then (some (((t670 ++ t671) ++ t672) ++ t673)) else (none))) else (none))) else (none)))
theorem gafferref05_Bytes.mono : ∀ a0 a1 a2 a3 k, LeO (gafferref05_Bytes.f k a0 a1 a2 a3) (gafferref05_Bytes.f (k + 1) a0 a1 a2 a3) := by
 intro a0 a1 a2 a3 k
 unfold gafferref05_Bytes.f
 repeat' with_reducible first | apply gafferref01_Number.mono | apply gafferref01_Text.mono | apply gafferref03_Ints.mono | apply LeO.refl | apply LeO.none | apply LeO.ite | refine LeO.bind ?_ (fun _ => ?_)
def gafferref05_Bytes.T1 : Bool × List (List Nat × List Nat) := (true, [([], []), ([0], [0]), ([1], [1]), ([], []), ([3], [3]), ([4, 2], [4]), ([2, 5], [2, 5]), ([], []), ([7], [7]), ([8, 5], [8]), ([6, 9], [6, 9]), ([], []), ([11], [11]), ([12, 9], [12]), ([10, 13], [10, 13]), ([14, 13, 0, 1, 2, 3, 4, 5, 6, 7, 8, 9, 10, 11, 12, 13, 14], [14])])
def gafferref05_Bytes.B1 : List Nat := [0, 1, 3, 0, 8, 31, 63, 0, 128, 447, 1023, 0, 2048, 7103, 16383, 32767]
theorem gafferref05_Bytes.tab1 : rtab .any (opsOf Try.f52 1) = gafferref05_Bytes.T1 := by kernel_rfl
theorem gafferref05_Bytes.bits1 : waitsOk gafferref05_Bytes.T1.2 gafferref05_Bytes.B1 = true := by kernel_rfl
theorem gafferref05_Bytes.calls (k : Nat) (a0_0 : Int) (a0_1 : Int) (A0_2 : Option Addr) (c0_2 : Nat) (l0_2 : List Int) (a0_3 : ByteArray) (r : ByteArray) (w : World) (hr0_2 : Kd.C (Kd.int .i64) w A0_2 l0_2.length l0_2) (hc0_2 : l0_2.length ≤ c0_2) (h : gafferref05_Bytes.f k a0_0 a0_1 l0_2 a0_3 = some r) :
  Calls Try.prog 52 #[.agg #[.int .u64 a0_0, .int .u64 a0_1, .slice A0_2 l0_2.length c0_2, .string a0_3]] w fun e w' => e = .returned (.string r) ∧ Below w.heap.size w w' := by
 have hu_1 := Try.underlying48
 have HR_1 := a_ hr0_2
 have HC_1 := a_ hc0_2
 clear hr0_2 hc0_2
 have HB := a_ (Below.refl w.heap.size w)
 have H := h
 unfold gafferref05_Bytes.f at H
 clear h
 obtain ⟨t_1, A_2, H⟩ := ob_ H
 try dsimp only at H
 obtain ⟨t_2, A_4, H⟩ := ob_ H
 try dsimp only at H
 replace H := iq_ H
 obtain ⟨c_1, H⟩ := H
 have c_2 := eq_true c_1
 have c_3 : decide (t_1.size + t_2.size ≤ 9223372036854775807) = true := decide_eq_true c_1
 try have c_4 : (9223372036854775807 < t_1.size + t_2.size) = False := eq_false (Nat.not_lt.2 c_1)
 clear c_1
 obtain ⟨t_3, A_6, H⟩ := ob_ H
 try dsimp only at H
 replace H := iq_ H
 obtain ⟨c_5, H⟩ := H
 have c_6 := eq_true c_5
 have c_7 : decide ((t_1 ++ t_2).size + t_3.size ≤ 9223372036854775807) = true := decide_eq_true c_5
 try have c_8 : (9223372036854775807 < (t_1 ++ t_2).size + t_3.size) = False := eq_false (Nat.not_lt.2 c_5)
 clear c_5
 obtain ⟨t_4, A_8, H⟩ := ob_ H
 try dsimp only at H
 replace H := iq_ H
 obtain ⟨c_9, H⟩ := H
 have c_10 := eq_true c_9
 have c_11 : decide (((t_1 ++ t_2) ++ t_3).size + t_4.size ≤ 9223372036854775807) = true := decide_eq_true c_9
 try have c_12 : (9223372036854775807 < ((t_1 ++ t_2) ++ t_3).size + t_4.size) = False := eq_false (Nat.not_lt.2 c_9)
 clear c_9
 obtain rfl := Option.some.inj H
 (try (have c_13 := c_6; simp only [ByteArray.size_extract, ByteArray.size_append, Nat.min_self, Nat.sub_zero] at c_13))
 (try (have c_14 := c_7; simp only [ByteArray.size_extract, ByteArray.size_append, Nat.min_self, Nat.sub_zero] at c_14))
 (try (have c_15 := c_8; simp only [ByteArray.size_extract, ByteArray.size_append, Nat.min_self, Nat.sub_zero] at c_15))
 (try (have c_16 := c_10; simp only [ByteArray.size_extract, ByteArray.size_append, Nat.min_self, Nat.sub_zero] at c_16))
 (try (have c_17 := c_11; simp only [ByteArray.size_extract, ByteArray.size_append, Nat.min_self, Nat.sub_zero] at c_17))
 (try (have c_18 := c_12; simp only [ByteArray.size_extract, ByteArray.size_append, Nat.min_self, Nat.sub_zero] at c_18))
 go_enter Try.func52, Try.ntmps52
 try go_wp2_with (first | ((with_reducible refine gd_ 1 ?_); refine bz_ 1 #[.int .u64 a0_0, .int .u64 a0_1, .slice A0_2 l0_2.length c0_2, .string a0_3] 48 ?_; intro gb_1 hg w_1 BK_1 hb; have GE_1 := a_ (bs_0 hg HB); replace HB := hB_ (bl_ HB) hb; clear hb hg))
 replace BK_1 := a_ (blk_drew BK_1.out)
 replace HB := a_ (below_drew1 HB.out)
 refine start_ (n := 16) (S := fun w' => w'.cell? ⟨gb_1, 0, none⟩ = some (.int .u64 a0_0) ∧ w'.cell? ⟨gb_1, 1, none⟩ = some (.int .u64 a0_1) ∧ w'.cell? ⟨gb_1, 2, none⟩ = some (.slice A0_2 l0_2.length c0_2) ∧ w'.cell? ⟨gb_1, 3, none⟩ = some (.string a0_3)) (ds := []) #[false, false, false, false, false, false, false, false, false, false, false, false, false, false, false, false] (by kernel_rfl) rfl rfl ⟨(blk_cell BK_1.out 0).trans rfl, (blk_cell BK_1.out 1).trans rfl, (blk_cell BK_1.out 2).trans rfl, (blk_cell BK_1.out 3).trans rfl⟩ (fun hHeld => ?_); refine with_tabW gafferref05_Bytes.tab1 gafferref05_Bytes.bits1 (fun HT_ HW_ => ?_)
 generalize w_1.drew = w_2 at BK_1 HB hHeld ⊢
 refine py_ HT_ 0 (some 3) ?_
 refine py_ HT_ 3 (some 6) ?_
 refine py_ HT_ 7 (some 10) ?_
 refine py_ HT_ 11 (some 14) ?_
 refine ty_ HT_ HW_ 1 (some 4) hHeld ?_
 refine ty_ HT_ HW_ 4 (some 7) hHeld ?_
 refine ty_ HT_ HW_ 8 (some 11) hHeld ?_
 refine ty_ HT_ HW_ 12 (some 15) hHeld ?_
 refine on_ HT_ 2 (some 5) (fun K hK => ?_)
 refine goes_ Try.func66 (by kernel_rfl) rfl #[.int .u64 a0_0] (by rfl) rfl rfl (ar_) ?_
 with_reducible refine (gafferref01_Number.calls _ _ _ _ A_2.out).mono ?_
 rintro e w_3 ⟨rfl, hb⟩
 refine ⟨_, rfl, ?_⟩
 replace BK_1 := bB_ BK_1 hb
 replace HB := hB_ (bl_1 HB GE_1) hb
 clear hb
 refine hK.out _ _ ⟨(blk_cell BK_1.out 0).trans rfl, (blk_cell BK_1.out 1).trans rfl, (blk_cell BK_1.out 2).trans rfl, (blk_cell BK_1.out 3).trans rfl⟩ (fun hHeld => ?_)
 clear hK K
 refine nop_ ?_
 refine on_ HT_ 5 (some 8) (fun K hK => ?_)
 refine goes_ Try.func66 (by kernel_rfl) rfl #[.int .u64 a0_1] (by rfl) rfl rfl (ar_) ?_
 with_reducible refine (gafferref01_Number.calls _ _ _ _ A_4.out).mono ?_
 rintro e w_4 ⟨rfl, hb⟩
 refine ⟨_, rfl, ?_⟩
 replace BK_1 := bB_ BK_1 hb
 replace HB := hB_ (bl_1 HB GE_1) hb
 clear hb
 refine hK.out _ _ ⟨(blk_cell BK_1.out 0).trans rfl, (blk_cell BK_1.out 1).trans rfl, (blk_cell BK_1.out 2).trans rfl, (blk_cell BK_1.out 3).trans rfl⟩ (fun hHeld => ?_)
 clear hK K
 refine nop_ ?_
 refine py_ HT_ 6 (some 9) ?_
 refine on_ HT_ 9 (some 12) (fun K hK => ?_)
 refine goes_ Try.func84 (by kernel_rfl) rfl #[.slice A0_2 l0_2.length c0_2] (by rfl) rfl rfl (ar_) ?_
 with_reducible refine (gafferref03_Ints.calls _ _ _ _ _ _ ?side1 ?side2 A_6.out).mono ?_
 (case side1 => exact cl_ (Kd.C_below HR_1.out HB.out))
 (case side2 => exact HC_1.out)
 rintro e w_5 ⟨rfl, hb⟩
 refine ⟨_, rfl, ?_⟩
 replace BK_1 := bB_ BK_1 hb
 replace HB := hB_ (bl_1 HB GE_1) hb
 clear hb
 refine hK.out _ _ ⟨(blk_cell BK_1.out 0).trans rfl, (blk_cell BK_1.out 1).trans rfl, (blk_cell BK_1.out 2).trans rfl, (blk_cell BK_1.out 3).trans rfl⟩ (fun hHeld => ?_)
 clear hK K
 refine nop_ ?_
 refine py_ HT_ 10 (some 13) ?_
 refine on_ HT_ 13 (some 16) (fun K hK => ?_)
 refine goes_ Try.func85 (by kernel_rfl) rfl #[.string a0_3] (by rfl) rfl rfl (ar_) ?_
 with_reducible refine (gafferref01_Text.calls _ _ _ _ A_8.out).mono ?_
 rintro e w_6 ⟨rfl, hb⟩
 refine ⟨_, rfl, ?_⟩
 replace BK_1 := bB_ BK_1 hb
 replace HB := hB_ (bl_1 HB GE_1) hb
 clear hb
 refine hK.out _ _ ⟨(blk_cell BK_1.out 0).trans rfl, (blk_cell BK_1.out 1).trans rfl, (blk_cell BK_1.out 2).trans rfl, (blk_cell BK_1.out 3).trans rfl⟩ (fun hHeld => ?_)
 clear hK K
 refine nop_ ?_
 refine py_ HT_ 14 (some 17) ?_
 refine py_ HT_ 15 (some 2) ?_
 refine done_ (done_of HT_.out (by kernel_rfl)) ?_
 try go_wp2
 go_ret
 exact ⟨fz_, bl_1 HB GE_1⟩
end Go.Proofs.Ytpigjmjbfpipnaa.PF
