-- By a program of this session.
import Derived.Test.YtpigjmjbfpipnaaPDx0
import Derived.Test.YtpigjmjbfpipnaaPDx3
import Derived.Test.YtpigjmjbfpipnaaPDx6
import Derived.Test.YtpigjmjbfpipnaaPDx13
import Derived.Test.YtpigjmjbfpipnaaPDx14
namespace Go.Proofs.Ytpigjmjbfpipnaa.PD
open Go.RowKit YtpigjmjbfpipnaaW.PrintWords YtpigjmjbfpipnaaW.PrintLast YtpigjmjbfpipnaaW.PrintMore Sh Ytpigjmjbfpipnaa.Op
attribute [local go_sem] max2_int min2_int max_two min_two max_three min_three max_four min_four
set_option linter.unusedVariables false
set_option maxHeartbeats 80000000
set_option maxRecDepth 100000
set_option linter.unusedSimpArgs false

mutual
def gafferref02_Sync.j0 : Nat → Int → Int → Bool → List (S71) → Bool → Int → Option ((List (S71)) × Bool × Int × Int)
 | 0, _, _, _, _, _, _ => none
 | k + 1, x6, x7, x21, x428000, x428001, x428002 => if x21 = true then (gafferref02_Sync.j1 k 6 x7 x428000 x428001 x428002) else (gafferref02_Sync.j1 k x6 x7 x428000 x428001 x428002)
def gafferref02_Sync.j1 : Nat → Int → Int → List (S71) → Bool → Int → Option ((List (S71)) × Bool × Int × Int)
 | 0, _, _, _, _, _ => none
 | k + 1, x6, x7, x428000, x428001, x428002 => if x6 = 0 then ((gafferref02_Copy.f x428000 x428001 x428002).bind fun bt437 => ((gafferref02_burnt.f bt437.1 bt437.2.1 bt437.2.2).bind fun bt442 => (if bt442.2.2.2 = true then (if 0 ≤ x7 then (if x7 < (bt442.1.length : Int) then ((gafferref02_with.f k bt442.1 bt442.2.1 bt442.2.2.1 ((rd_T71 bt442.1 x7).f0) ((rd_T71 bt442.1 x7).f1) (((rd_T71 bt442.1 x7).f1).size : Int)).bind fun bt451 => (some (bt451.1, bt451.2.1, bt451.2.2, 0))) else (none)) else (none)) else (some (bt442.1, bt442.2.1, bt442.2.2.1, 8))))) else ((gafferref02_bad.f x428000 x428001 x428002 x6).bind fun bt431 => (some (bt431.1, bt431.2.1, bt431.2.2.1, bt431.2.2.2)))
end
def gafferref02_Sync.f (k : Nat) (l0_0 : List (S71)) (a0_1 : Bool) (a0_2 : Int) (a1 : ByteArray) : Option ((List (S71)) × Bool × Int × Int) := (gafferref02_ready.f k l0_0 a0_1 a0_2).bind fun t429 => ((gafferref02_find.f k l0_0 a0_1 a0_2 a1).bind fun t430 => (if t429 = 0 then (gafferref02_Sync.j0 k t429 t430 (decide (t430 < 0)) l0_0 a0_1 a0_2) else (gafferref02_Sync.j0 k t429 t430 false l0_0 a0_1 a0_2)))
theorem gafferref02_Sync.mono_l : ∀ k, (∀ y0 y1 y2 y3 y4 y5, LeO (gafferref02_Sync.j0 k y0 y1 y2 y3 y4 y5) (gafferref02_Sync.j0 (k + 1) y0 y1 y2 y3 y4 y5)) ∧ (∀ y0 y1 y2 y3 y4, LeO (gafferref02_Sync.j1 k y0 y1 y2 y3 y4) (gafferref02_Sync.j1 (k + 1) y0 y1 y2 y3 y4))
 | 0 => ⟨fun _ _ _ _ _ _ r h => by simp [gafferref02_Sync.j0] at h, fun _ _ _ _ _ r h => by simp [gafferref02_Sync.j1] at h⟩
 | k + 1 => by
  obtain ⟨ih0, ih1⟩ := gafferref02_Sync.mono_l k
  refine ⟨?_, ?_⟩
  ·intro y0 y1 y2 y3 y4 y5
   unfold gafferref02_Sync.j0
   repeat' with_reducible first | apply ih0 | apply ih1 | apply gafferref02_find.mono | apply gafferref02_ready.mono | apply gafferref02_with.mono | apply LeO.refl | apply LeO.none | apply LeO.ite | refine LeO.bind ?_ (fun _ => ?_)
  ·intro y0 y1 y2 y3 y4
   unfold gafferref02_Sync.j1
   repeat' with_reducible first | apply ih0 | apply ih1 | apply gafferref02_find.mono | apply gafferref02_ready.mono | apply gafferref02_with.mono | apply LeO.refl | apply LeO.none | apply LeO.ite | refine LeO.bind ?_ (fun _ => ?_)
theorem gafferref02_Sync.mono : ∀ a0 a1 a2 a3 k, LeO (gafferref02_Sync.f k a0 a1 a2 a3) (gafferref02_Sync.f (k + 1) a0 a1 a2 a3) := by
 intro a0 a1 a2 a3 k
 obtain ⟨ih0, ih1⟩ := gafferref02_Sync.mono_l k
 unfold gafferref02_Sync.f
 repeat' with_reducible first | apply ih0 | apply ih1 | apply gafferref02_find.mono | apply gafferref02_ready.mono | apply gafferref02_with.mono | apply LeO.refl | apply LeO.none | apply LeO.ite | refine LeO.bind ?_ (fun _ => ?_)
theorem gafferref02_Sync.calls (k : Nat) (A0_0 : Option Addr) (c0_0 : Nat) (l0_0 : List (S71)) (a0_1 : Bool) (a0_2 : Int) (a1 : ByteArray) (r1 : List (S71)) (r2 : Bool) (r3 : Int) (r4 : Int) (w : World) (hr0_0 : Kd.C k71 w A0_0 l0_0.length l0_0) (hc0_0 : l0_0.length ≤ c0_0) (h : gafferref02_Sync.f k l0_0 a0_1 a0_2 a1 = some (r1, r2, r3, r4)) :
  Calls Try.prog 77 #[.agg #[.slice A0_0 l0_0.length c0_0, .bool a0_1, .int .i64 a0_2], .string a1] w fun e w' => ∃ v0_ : Value, e = .returned (.tuple #[.agg #[v0_, .bool r2, .int .i64 r3], .int .i64 r4]) ∧ Kd.R k71 71 w' w.heap.size (fun _ => True) v0_ r1 ∧ Below w.heap.size w w' := by
 have hu24 := Try.underlying24
 have hu71 := Try.underlying71
 have HR0_0 := a_ hr0_0
 have HC0_0 := a_ hc0_0
 clear hr0_0 hc0_0
 have HB := a_ (Below.refl w.heap.size w)
 have H : ((gafferref02_ready.f k l0_0 a0_1 a0_2).bind fun t429 => ((gafferref02_find.f k l0_0 a0_1 a0_2 a1).bind fun t430 => (if t429 = 0 then (gafferref02_Sync.j0 k t429 t430 (decide (t430 < 0)) l0_0 a0_1 a0_2) else (gafferref02_Sync.j0 k t429 t430 false l0_0 a0_1 a0_2)))) = some (r1, r2, r3, r4) := h
 clear h
 obtain ⟨t429, A30, H⟩ := Option.bind_eq_some_iff.mp H
 try dsimp only at H
 have A3 := a_ A30
 clear A30
 obtain ⟨t430, A40, H⟩ := Option.bind_eq_some_iff.mp H
 try dsimp only at H
 have A4 := a_ A40
 clear A40
 have HC5 := a_ H
 clear H
 go_enter Try.func77, Try.ntmps77
 go_upto_region 3 with (first | ((with_reducible refine gd_ 2 ?_); refine bx_ 2 #[.slice A0_0 l0_0.length c0_0, .bool a0_1, .int .i64 a0_2] 24 ?_; intro gb427 hg w6 hbox hb; have BK427 := a_ (hbox); have GE427 := a_ (bs_0 hg HB); replace HB := hB_ (bl_ HB) hb; clear hb hbox hg) | ((with_reducible refine gd_ 4 ?_); refine bx_ 4 #[.slice none 0 0, .bool false, .int .i64 0] 24 ?_; intro gb428 hg w7 hbox hb; have BK428 := a_ (hbox); have GE428 := a_ (bs_1 hg HB GE427); replace HB := hB_ (bl_1 HB GE427) hb; have NB427_428 := nB_ hg BK427; have NB428_427 := nC_ hg BK427; replace BK427 := bB_ BK427 hb; clear hb hbox hg; have hnb8 := NB427_428.out; have hnc8 := NB428_427.out; obtain ⟨hcz9_0, hcz9_1, hcz9_2, hfz9_0, hfz9_1, hfz9_2⟩ := c3_ BK427) | ((with_reducible refine gk_ 97 ?_); refine gl_ (some 12) Try.func97 #[.agg #[.slice A0_0 l0_0.length c0_0, .bool a0_1, .int .i64 a0_2]] ?_; (with_reducible refine (gafferref02_ready.calls k _ _ l0_0 a0_1 a0_2 t429 _ ?side1 ?side2 A3.out).mono ?_); (case side1 => exact cl_ (Kd.C_below HR0_0.out HB.out)); (case side2 => exact HC0_0.out); rintro e w10 ⟨rfl, hb⟩; refine ⟨_, rfl, ?_⟩; replace BK427 := bB_ BK427 hb; replace BK428 := bB_ BK428 hb; replace HB := hB_ (bl_2 HB GE427 GE428) hb; (try clear hb); obtain ⟨hcz11_0, hcz11_1, hcz11_2, hfz11_0, hfz11_1, hfz11_2⟩ := c3_ BK427) | ((with_reducible refine gk_ 64 ?_); refine gl_ (some 15) Try.func64 #[.agg #[.slice A0_0 l0_0.length c0_0, .bool a0_1, .int .i64 a0_2], .string a1] ?_; (with_reducible refine (gafferref02_find.calls k _ _ l0_0 a0_1 a0_2 a1 t430 _ ?side1 ?side2 A4.out).mono ?_); (case side1 => exact cl_ (Kd.C_below HR0_0.out HB.out)); (case side2 => exact HC0_0.out); rintro e w12 ⟨rfl, hb⟩; refine ⟨_, rfl, ?_⟩; replace BK427 := bB_ BK427 hb; replace BK428 := bB_ BK428 hb; replace HB := hB_ (bl_2 HB GE427 GE428) hb; (try clear hb)))
 (try simp only [Act.put, List.setIfInBounds_toArray, List.set_cons_zero, List.set_cons_succ])
 go_cut [21] (fun v21 wc => ∃ (kq : Nat) (x21_4 : Bool), v21 = .bool x21_4 ∧ Aside0 (gafferref02_Sync.j0 kq t429 t430 x21_4 l0_0 a0_1 a0_2 = some (r1, r2, r3, r4)) ∧ Aside0 (kq ≤ k) ∧ Aside0 (wc.heap[gb427]? = some (.cells #[(.slice A0_0 l0_0.length c0_0), .bool a0_1, .int .i64 a0_2] 24 (0, 0))) ∧ Aside0 (wc.heap[gb428]? = some (.cells #[(.slice none 0 0), .bool false, .int .i64 0] 24 (0, 0))) ∧ Aside0 (Below w.heap.size w wc))
 case first =>
  have H := HC5.out
  clear HC5
  by_cases c13 : t429 = 0
  rotate_left
  ·rw [if_neg c13] at H
   have c13b0 : (t429 == 0) = false := beq_eq_false_iff_ne.mpr c13
   have c13b1 : (t429 != 0) = true := bne_iff_ne.mpr c13
   (first | rw [c13b0] | (simp only [i64_w, i32_w]; rw [c13b0]) | skip)
   have H' := a_ H
   clear H
   go_wp2
   go_meet
   case rel => exact ⟨_, (false), fz_, H', ⟨by first | omega | exact Nat.le_refl _⟩, ⟨bk_ BK427⟩, ⟨bk_ BK428⟩, ⟨bl_2 HB GE427 GE428⟩⟩
  rw [if_pos c13] at H
  have c13b0 : (t429 == 0) = true := beq_iff_eq.mpr c13
  have c13b1 : (t429 != 0) = false := bne_eq_false_iff_eq.mpr c13
  clear c13
  (first | rw [c13b0] | (simp only [i64_w, i32_w]; rw [c13b0]) | skip)
  have H' := a_ H
  clear H
  go_wp2
  go_meet
  case rel => exact ⟨_, (decide (t430 < 0)), fz_, H', ⟨by first | omega | exact Nat.le_refl _⟩, ⟨bk_ BK427⟩, ⟨bk_ BK428⟩, ⟨bl_2 HB GE427 GE428⟩⟩
 case rest =>
  clear HC5
  try clear c1
  try clear p2
  try clear c6
  try clear c7
  try clear c8
  try clear c9
  try clear c13
  try clear c13b0
  try clear c13b1
  obtain ⟨kq, x21_4, rfl, HA, HJ4, BK427, BK428, HB⟩ := hcut
  cases kq with
  | zero => exact absurd HA.out (by simp [gafferref02_Sync.j0])
  | succ kj4 =>
   have H := HA.out
   clear HA
   simp only [gafferref02_Sync.j0] at H
   have HC14 := a_ H
   clear H
   go_upto_if 21 with (fail)
   go_cut [6] (fun v6 wc => ∃ (kq : Nat) (x6_13 : Int), v6 = .int .i64 x6_13 ∧ Aside0 (gafferref02_Sync.j1 kq x6_13 t430 l0_0 a0_1 a0_2 = some (r1, r2, r3, r4)) ∧ Aside0 (kq ≤ kj4) ∧ Aside0 (wc.heap[gb427]? = some (.cells #[(.slice A0_0 l0_0.length c0_0), .bool a0_1, .int .i64 a0_2] 24 (0, 0))) ∧ Aside0 (wc.heap[gb428]? = some (.cells #[(.slice none 0 0), .bool false, .int .i64 0] 24 (0, 0))) ∧ Aside0 (Below w.heap.size w wc))
   case first =>
    have H := HC14.out
    clear HC14
    by_cases c15 : x21_4 = true
    ·subst c15
     have H1 : (gafferref02_Sync.j1 kj4 6 t430 l0_0 a0_1 a0_2) = some (r1, r2, r3, r4) := by rw [if_pos rfl] at H; exact H
     clear H
     have H := H1
     clear H1
     have H' := a_ H
     clear H
     go_wp2
     go_meet
     case rel => exact ⟨_, (6), fz_, H', ⟨by have := HJ4.out; first | omega | exact Nat.le_refl _⟩, ⟨bk_ BK427⟩, ⟨bk_ BK428⟩, ⟨bl_2 HB GE427 GE428⟩⟩
    replace c15 := Bool.eq_false_iff.mpr c15
    subst c15
    have H1 : (gafferref02_Sync.j1 kj4 t429 t430 l0_0 a0_1 a0_2) = some (r1, r2, r3, r4) := by rw [if_neg (show ¬ (false = true) by decide)] at H; exact H
    clear H
    have H := H1
    clear H1
    have H' := a_ H
    clear H
    go_wp2
    go_meet
    case rel => exact ⟨_, (t429), fz_, H', ⟨by have := HJ4.out; first | omega | exact Nat.le_refl _⟩, ⟨bk_ BK427⟩, ⟨bk_ BK428⟩, ⟨bl_2 HB GE427 GE428⟩⟩
   case rest =>
    clear HC14
    try clear c1
    try clear p2
    try clear c6
    try clear c7
    try clear c8
    try clear c9
    try clear c13
    try clear c13b0
    try clear c13b1
    try clear c15
    try clear p2
    obtain ⟨kq, x6_13, rfl, HA, HJ13, BK427, BK428, HB⟩ := hcut
    cases kq with
    | zero => exact absurd HA.out (by simp [gafferref02_Sync.j1])
    | succ kj13 =>
     have H := HA.out
     clear HA
     simp only [gafferref02_Sync.j1] at H
     by_cases c16 : x6_13 = 0
     rotate_left
     ·rw [if_neg c16] at H
      have c16b0 : (x6_13 == 0) = false := beq_eq_false_iff_ne.mpr c16
      have c16b1 : (x6_13 != 0) = true := bne_iff_ne.mpr c16
      obtain ⟨⟨t431, t434, t435, t436⟩, A530, H⟩ := Option.bind_eq_some_iff.mp H
      try dsimp only at H
      have A53 := a_ A530
      clear A530
      simp only [Option.some.injEq, Prod.mk.injEq] at H
      obtain ⟨rfl, rfl, rfl, rfl⟩ := H
      have hnb54 := NB427_428.out
      have hnc54 := NB428_427.out
      obtain ⟨hcz55_0, hcz55_1, hcz55_2, hfz55_0, hfz55_1, hfz55_2⟩ := c3_ BK427
      go_wp2_with (first | ((with_reducible refine gk_ 98 ?_); refine gl_ (some 26) Try.func98 #[.agg #[.slice A0_0 l0_0.length c0_0, .bool a0_1, .int .i64 a0_2], .int .i64 x6_13] ?_; (with_reducible refine (gafferref02_bad.calls _ _ l0_0 a0_1 a0_2 x6_13 t431 t434 t435 t436 _ ?side1 ?side2 A53.out).mono ?_); (case side1 => exact cl_ (Kd.C_below HR0_0.out HB.out)); (case side2 => exact HC0_0.out); rintro e w56 ⟨v432, rfl, ho0, hb⟩; refine ⟨_, rfl, ?_⟩; have HO433 := a_ (Kd.R_lower ho0 (below_size (bl_2 HB GE427 GE428))); replace BK427 := bB_ BK427 hb; replace BK428 := bB_ BK428 hb; replace HB := hB_ (bl_2 HB GE427 GE428) hb; (try clear hb); (try clear ho0); obtain ⟨Ao57, co57, eo57⟩ := Kd.R_slice HO433.out; subst eo57; obtain ⟨hcz58_0, hcz58_1, hcz58_2, hfz58_0, hfz58_1, hfz58_2⟩ := c3_ BK428))
      refine bodyPost_ret (results_ct rfl _ _ gb428 24 #[.slice Ao57 t431.length co57, .bool t434, .int .i64 t435] (0, 0) _ rfl (bp_0 BK428) Try.underlying24 rfl (by kernel_rfl)) rfl ?_
      exact ⟨_, fz_, by refine rq_ ?_; exact Kd.R_mono (Kd.R_far (p := ⟨gb428, 2, none⟩) (Kd.R_far (p := ⟨gb428, 1, none⟩) (Kd.R_far (p := ⟨gb428, 0, none⟩) (Kd.R_types HO433.out BK428.out (by decide)) (fun _ hk => hk.2) (.slice Ao57 t431.length co57)) (fun _ hk => hk.2) (.bool t434)) (fun _ hk => hk.2) (.int .i64 t435)) (fun _ hk => trivial), bl_2 HB GE427 GE428⟩


     rw [if_pos c16] at H
     have c16b0 : (x6_13 == 0) = true := beq_iff_eq.mpr c16
     have c16b1 : (x6_13 != 0) = false := bne_eq_false_iff_eq.mpr c16
     clear c16
     obtain ⟨⟨t437, t440, t441⟩, A170, H⟩ := Option.bind_eq_some_iff.mp H
     try dsimp only at H
     have A17 := a_ A170
     clear A170
     obtain ⟨⟨t442, t445, t446, t447⟩, A180, H⟩ := Option.bind_eq_some_iff.mp H
     try dsimp only at H
     have A18 := a_ A180
     clear A180
     by_cases c19 : t447 = true
     rotate_left
     ·replace c19 := Bool.eq_false_iff.mpr c19
      subst c19
      have H1 : (some (t442, t445, t446, 8)) = some (r1, r2, r3, r4) := by rw [if_neg (show ¬ (false = true) by decide)] at H; exact H
      clear H
      have H := H1
      clear H1
      simp only [Option.some.injEq, Prod.mk.injEq] at H
      obtain ⟨rfl, rfl, rfl, rfl⟩ := H
      have hnb42 := NB427_428.out
      have hnc42 := NB428_427.out
      obtain ⟨hcz43_0, hcz43_1, hcz43_2, hfz43_0, hfz43_1, hfz43_2⟩ := c3_ BK427
      go_wp2_with (first | ((with_reducible refine gk_ 14 ?_); refine gl_ (some 31) Try.func14 #[.agg #[.slice A0_0 l0_0.length c0_0, .bool a0_1, .int .i64 a0_2]] ?_; (with_reducible refine (gafferref02_Copy.calls _ _ l0_0 a0_1 a0_2 t437 t440 t441 _ ?side1 ?side2 A17.out).mono ?_); (case side1 => exact cl_ (Kd.C_below HR0_0.out HB.out)); (case side2 => exact HC0_0.out); rintro e w44 ⟨v438, rfl, ho0, hb⟩; refine ⟨_, rfl, ?_⟩; have HO439 := a_ (Kd.R_lower ho0 (below_size (bl_2 HB GE427 GE428))); replace BK427 := bB_ BK427 hb; replace BK428 := bB_ BK428 hb; replace HB := hB_ (bl_2 HB GE427 GE428) hb; (try clear hb); (try clear ho0); obtain ⟨Ao45, co45, eo45⟩ := Kd.R_slice HO439.out; subst eo45) | ((with_reducible refine gk_ 99 ?_); refine gl_ (some 32) Try.func99 #[.agg #[.slice Ao45 t437.length co45, .bool t440, .int .i64 t441]] ?_; (with_reducible refine (gafferref02_burnt.calls (fun k_ => some k_ = (.slice Ao45 t437.length co45 : Value).ownBlock) (.slice Ao45 t437.length co45) t437 t440 t441 t442 t445 t446 false w _ ?side1 ?side2 A18.out).mono ?_); (case side1 => repeat (first | (with_reducible first | exact HB.out | apply below_alloc | apply pw_below_drewN | apply below_drew1 | refine below_set ?_ GE427.out | refine below_set ?_ GE428.out) | exact HB.out)); (case side2 => exact Kd.R_tight rfl HO439.out); rintro e w46 ⟨v443, rfl, ho0, hb, hkp⟩; refine ⟨_, rfl, ?_⟩; replace BK427 := a_ (blk_kept (bk_ BK427) hkp (fun hs_ => (fun e_ => (Kd.R_ne HO439.out BK427.out (by decide)) e_) hs_)); replace BK428 := a_ (blk_kept (bk_ BK428) hkp (fun hs_ => (fun e_ => (Kd.R_ne HO439.out BK428.out (by decide)) e_) hs_)); have HO444 := a_ (Kd.R_mono (ok' := fun k_ => True) ho0 (fun k_ hk_ => trivial)); replace HB := a_ (hb); clear HO439; (try clear hb); (try clear hkp); (try clear ho0)) | ((with_reducible refine gd_ 8 ?_); refine bx_ 8 #[.slice none 0 0, .bool false, .int .i64 0] 24 ?_; intro gb448 hg w47 hbox hb; replace HO444 := a_ (Kd.R_below (by refine rq_ ?_; exact HO444.out) hb); have BK448 := a_ (hbox); have GE448 := a_ (bs_2 hg HB GE427 GE428); replace HB := hB_ (bl_2 HB GE427 GE428) hb; have NB427_448 := nB_ hg BK427; have NB448_427 := nC_ hg BK427; replace BK427 := bB_ BK427 hb; have NB428_448 := nB_ hg BK428; have NB448_428 := nC_ hg BK428; replace BK428 := bB_ BK428 hb; clear hb hbox hg; obtain ⟨Ao48, co48, eo48⟩ := Kd.R_slice HO444.out; subst eo48; have hnb49 := NB448_427.out; have hnc49 := NB427_448.out; have hnb50 := NB448_428.out; have hnc50 := NB428_448.out; obtain ⟨hcz51_0, hcz51_1, hcz51_2, hfz51_0, hfz51_1, hfz51_2⟩ := c3_ BK448; obtain ⟨hcz52_0, hcz52_1, hcz52_2, hfz52_0, hfz52_1, hfz52_2⟩ := c3_ BK428))
      refine bodyPost_ret (results_ct rfl _ _ gb428 24 #[.slice Ao48 t442.length co48, .bool t445, .int .i64 t446] (0, 0) _ rfl (bp_1 BK428 NB428_448) Try.underlying24 rfl (by kernel_rfl)) rfl ?_
      exact ⟨_, fz_, by refine rq_ ?_; exact Kd.R_mono (Kd.R_far (p := ⟨gb428, 2, none⟩) (Kd.R_far (p := ⟨gb428, 1, none⟩) (Kd.R_far (p := ⟨gb428, 0, none⟩) (Kd.R_far (p := ⟨gb448, 2, none⟩) (Kd.R_far (p := ⟨gb448, 1, none⟩) (Kd.R_far (p := ⟨gb448, 0, none⟩) (Kd.R_types (Kd.R_types HO444.out BK448.out (by decide)) BK428.out (by decide)) (fun _ hk => hk.1.2) (.slice Ao48 t442.length co48)) (fun _ hk => hk.1.2) (.bool t445)) (fun _ hk => hk.1.2) (.int .i64 t446)) (fun _ hk => hk.2) (.slice Ao48 t442.length co48)) (fun _ hk => hk.2) (.bool t445)) (fun _ hk => hk.2) (.int .i64 t446)) (fun _ hk => trivial), bl_3 HB GE427 GE428 GE448⟩
     subst c19
     have H1 : (if 0 ≤ t430 then (if t430 < (t442.length : Int) then ((gafferref02_with.f kj13 t442 t445 t446 ((rd_T71 t442 t430).f0) ((rd_T71 t442 t430).f1) (((rd_T71 t442 t430).f1).size : Int)).bind fun bt451 => (some (bt451.1, bt451.2.1, bt451.2.2, 0))) else (none)) else (none)) = some (r1, r2, r3, r4) := by rw [if_pos rfl] at H; exact H
     clear H
     have H := H1
     clear H1
     by_cases c20 : 0 ≤ t430
     rotate_left
     ·rw [if_neg c20] at H
      exact absurd H (by simp)
     rw [if_pos c20] at H
     have c20b0 : decide (0 ≤ t430) = true := decide_eq_true c20
     clear c20
     by_cases c21 : t430 < (t442.length : Int)
     rotate_left
     ·rw [if_neg c21] at H
      exact absurd H (by simp)
     rw [if_pos c21] at H
     have c21b0 : decide (t430 < (t442.length : Int)) = true := decide_eq_true c21
     clear c21
     obtain ⟨⟨t451, t454, t455⟩, A220, H⟩ := Option.bind_eq_some_iff.mp H
     try dsimp only at H
     have A22 := a_ A220
     clear A220
     simp only [Option.some.injEq, Prod.mk.injEq] at H
     obtain ⟨rfl, rfl, rfl, rfl⟩ := H
     have hnb23 := NB427_428.out
     have hnc23 := NB428_427.out
     obtain ⟨hcz24_0, hcz24_1, hcz24_2, hfz24_0, hfz24_1, hfz24_2⟩ := c3_ BK427
     go_wp2_with (first | ((with_reducible refine gk_ 14 ?_); refine gl_ (some 31) Try.func14 #[.agg #[.slice A0_0 l0_0.length c0_0, .bool a0_1, .int .i64 a0_2]] ?_; (with_reducible refine (gafferref02_Copy.calls _ _ l0_0 a0_1 a0_2 t437 t440 t441 _ ?side1 ?side2 A17.out).mono ?_); (case side1 => exact cl_ (Kd.C_below HR0_0.out HB.out)); (case side2 => exact HC0_0.out); rintro e w25 ⟨v438, rfl, ho0, hb⟩; refine ⟨_, rfl, ?_⟩; have HO439 := a_ (Kd.R_lower ho0 (below_size (bl_2 HB GE427 GE428))); replace BK427 := bB_ BK427 hb; replace BK428 := bB_ BK428 hb; replace HB := hB_ (bl_2 HB GE427 GE428) hb; (try clear hb); (try clear ho0); obtain ⟨Ao26, co26, eo26⟩ := Kd.R_slice HO439.out; subst eo26) | ((with_reducible refine gk_ 99 ?_); refine gl_ (some 32) Try.func99 #[.agg #[.slice Ao26 t437.length co26, .bool t440, .int .i64 t441]] ?_; (with_reducible refine (gafferref02_burnt.calls (fun k_ => some k_ = (.slice Ao26 t437.length co26 : Value).ownBlock) (.slice Ao26 t437.length co26) t437 t440 t441 t442 t445 t446 true w _ ?side1 ?side2 A18.out).mono ?_); (case side1 => repeat (first | (with_reducible first | exact HB.out | apply below_alloc | apply pw_below_drewN | apply below_drew1 | refine below_set ?_ GE427.out | refine below_set ?_ GE428.out) | exact HB.out)); (case side2 => exact Kd.R_tight rfl HO439.out); rintro e w27 ⟨v443, rfl, ho0, hb, hkp⟩; refine ⟨_, rfl, ?_⟩; replace BK427 := a_ (blk_kept (bk_ BK427) hkp (fun hs_ => (fun e_ => (Kd.R_ne HO439.out BK427.out (by decide)) e_) hs_)); replace BK428 := a_ (blk_kept (bk_ BK428) hkp (fun hs_ => (fun e_ => (Kd.R_ne HO439.out BK428.out (by decide)) e_) hs_)); have HO444 := a_ (Kd.R_mono (ok' := fun k_ => True) ho0 (fun k_ hk_ => trivial)); replace HB := a_ (hb); clear HO439; (try clear hb); (try clear hkp); (try clear ho0)) | ((with_reducible refine gd_ 8 ?_); refine bx_ 8 #[.slice none 0 0, .bool false, .int .i64 0] 24 ?_; intro gb448 hg w28 hbox hb; replace HO444 := a_ (Kd.R_below (by refine rq_ ?_; exact HO444.out) hb); have BK448 := a_ (hbox); have GE448 := a_ (bs_2 hg HB GE427 GE428); replace HB := hB_ (bl_2 HB GE427 GE428) hb; have NB427_448 := nB_ hg BK427; have NB448_427 := nC_ hg BK427; replace BK427 := bB_ BK427 hb; have NB428_448 := nB_ hg BK428; have NB448_428 := nC_ hg BK428; replace BK428 := bB_ BK428 hb; clear hb hbox hg; obtain ⟨Ao29, co29, eo29⟩ := Kd.R_slice HO444.out; subst eo29; have hnb30 := NB448_427.out; have hnc30 := NB427_448.out; have hnb31 := NB448_428.out; have hnc31 := NB428_448.out; obtain ⟨hcz32_0, hcz32_1, hcz32_2, hfz32_0, hfz32_1, hfz32_2⟩ := c3_ BK448; have p449 : 0 ≤ (t430 : Int) := od_; have q449 : t430 < (t442.length : Int) := od_; obtain ⟨ad449, e449, hx449_0, hx449_1, hx449_2⟩ := at_T71 (Kd.R_reads' HO444.out).2.2 t430 p449 q449; cases e449; have hn449_0 : ad449.block ≠ gb448 := Kd.own_blk (Kd.R_ne HO444.out BK448.out (by decide)); have hn449_1 : ad449.block ≠ gb448 := Kd.own_blk (Kd.R_ne HO444.out BK448.out (by decide)); have hn449_2 : ad449.block ≠ gb448 := Kd.own_blk (Kd.R_ne HO444.out BK448.out (by decide)); replace hx449_0 := (cf_ (p := ⟨gb448, 0, none⟩) hn449_0 (.slice (some ad449) t442.length co29)).trans hx449_0; replace hx449_1 := (cf_ (p := ⟨gb448, 0, none⟩) hn449_0 (.slice (some ad449) t442.length co29)).trans hx449_1; replace hx449_2 := (cf_ (p := ⟨gb448, 0, none⟩) hn449_0 (.slice (some ad449) t442.length co29)).trans hx449_2; replace hx449_0 := (cf_ (p := ⟨gb448, 1, none⟩) hn449_1 (.bool t445)).trans hx449_0; replace hx449_1 := (cf_ (p := ⟨gb448, 1, none⟩) hn449_1 (.bool t445)).trans hx449_1; replace hx449_2 := (cf_ (p := ⟨gb448, 1, none⟩) hn449_1 (.bool t445)).trans hx449_2; replace hx449_0 := (cf_ (p := ⟨gb448, 2, none⟩) hn449_2 (.int .i64 t446)).trans hx449_0; replace hx449_1 := (cf_ (p := ⟨gb448, 2, none⟩) hn449_2 (.int .i64 t446)).trans hx449_1; replace hx449_2 := (cf_ (p := ⟨gb448, 2, none⟩) hn449_2 (.int .i64 t446)).trans hx449_2; clear hn449_0; clear hn449_1; clear hn449_2; replace p449 := eq_true p449; replace q449 := eq_true q449) | ((with_reducible refine gd_ 10 ?_); refine bx_ 10 #[.string (⟨#[]⟩ : ByteArray), .string (⟨#[]⟩ : ByteArray), .int .i64 0] 71 ?_; intro gb450 hg w33 hbox hb; replace HO444 := a_ (Kd.R_below (Kd.R_elderB (by refine rq_ ?_; exact (Kd.R_mono (Kd.R_far (p := ⟨gb448, 2, none⟩) (Kd.R_far (p := ⟨gb448, 1, none⟩) (Kd.R_far (p := ⟨gb448, 0, none⟩) (Kd.R_types HO444.out BK448.out (by decide)) (fun _ hk => hk.2) (.slice (some ad449) t442.length co29)) (fun _ hk => hk.2) (.bool t445)) (fun _ hk => hk.2) (.int .i64 t446)) (fun _ h_ => h_.1))) gb450 (Nat.le_of_eq hg.symm)) hb); have BK450 := a_ (hbox); have GE450 := a_ (bs_3 hg HB GE427 GE428 GE448); replace HB := hB_ (bl_3 HB GE427 GE428 GE448) hb; have NB427_450 := a_ ((by rw [hg]; exact Nat.ne_of_lt (blk_lt (g := gb427) (o := .cells #[.slice A0_0 l0_0.length c0_0, .bool a0_1, .int .i64 a0_2] 24 (0, 0)) (bp_1 BK427 NB427_448)) : gb427 ≠ gb450)); have NB450_427 := a_ ((by rw [hg]; exact Nat.ne_of_gt (blk_lt (g := gb427) (o := .cells #[.slice A0_0 l0_0.length c0_0, .bool a0_1, .int .i64 a0_2] 24 (0, 0)) (bp_1 BK427 NB427_448)) : gb450 ≠ gb427)); replace BK427 := a_ (blk_below (g := gb427) (o := .cells #[.slice A0_0 l0_0.length c0_0, .bool a0_1, .int .i64 a0_2] 24 (0, 0)) (bp_1 BK427 NB427_448) hb); have NB428_450 := a_ ((by rw [hg]; exact Nat.ne_of_lt (blk_lt (g := gb428) (o := .cells #[.slice none 0 0, .bool false, .int .i64 0] 24 (0, 0)) (bp_1 BK428 NB428_448)) : gb428 ≠ gb450)); have NB450_428 := a_ ((by rw [hg]; exact Nat.ne_of_gt (blk_lt (g := gb428) (o := .cells #[.slice none 0 0, .bool false, .int .i64 0] 24 (0, 0)) (bp_1 BK428 NB428_448)) : gb450 ≠ gb428)); replace BK428 := a_ (blk_below (g := gb428) (o := .cells #[.slice none 0 0, .bool false, .int .i64 0] 24 (0, 0)) (bp_1 BK428 NB428_448) hb); have NB448_450 := a_ ((by rw [hg]; exact Nat.ne_of_lt (blk_lt (g := gb448) (o := .cells #[.slice (some ad449) t442.length co29, .bool t445, .int .i64 t446] 24 (0, 0)) (bp_0 BK448)) : gb448 ≠ gb450)); have NB450_448 := a_ ((by rw [hg]; exact Nat.ne_of_gt (blk_lt (g := gb448) (o := .cells #[.slice (some ad449) t442.length co29, .bool t445, .int .i64 t446] 24 (0, 0)) (bp_0 BK448)) : gb450 ≠ gb448)); replace BK448 := a_ (blk_below (g := gb448) (o := .cells #[.slice (some ad449) t442.length co29, .bool t445, .int .i64 t446] 24 (0, 0)) (bp_0 BK448) hb); clear hb hbox hg; have hnb34 := NB450_427.out; have hnc34 := NB427_450.out; have hnb35 := NB450_428.out; have hnc35 := NB428_450.out; have hnb36 := NB450_448.out; have hnc36 := NB448_450.out; obtain ⟨hcz37_0, hcz37_1, hcz37_2, hfz37_0, hfz37_1, hfz37_2⟩ := c3_ BK450; obtain ⟨hcz38_0, hcz38_1, hcz38_2, hfz38_0, hfz38_1, hfz38_2⟩ := c3_ BK448) | ((with_reducible refine gk_ 102 ?_); refine gl_ (some 49) Try.func102 #[.agg #[.slice (some ad449) t442.length co29, .bool t445, .int .i64 t446], .agg #[.string ((rd_T71 t442 t430).f0), .string ((rd_T71 t442 t430).f1), .int .i64 (((rd_T71 t442 t430).f1).size : Int)]] ?_; (with_reducible refine (gafferref02_with.calls kj13 _ _ t442 t445 t446 ((rd_T71 t442 t430).f0) ((rd_T71 t442 t430).f1) (((rd_T71 t442 t430).f1).size : Int) t451 t454 t455 _ ?side1 ?side2 A22.out).mono ?_); (case side1 => refine (Kd.R_reads' (e := 71) (base := w.heap.size) (ok := fun k_ => (True ∧ k_ ≠ gb450)) (n := t442.length) (c := co29) ?_).2.2; exact (by refine rq_ ?_; exact (Kd.R_mono (Kd.R_far (p := ⟨gb450, 2, none⟩) (Kd.R_far (p := ⟨gb450, 2, none⟩) (Kd.R_far (p := ⟨gb450, 1, none⟩) (Kd.R_far (p := ⟨gb450, 0, none⟩) (Kd.R_mono HO444.out (fun k_ hk => (⟨hk, hk.2⟩ : _ ∧ k_ ≠ gb450))) (fun _ hk => hk.2) (.string ((rd_T71 t442 t430).f0))) (fun _ hk => hk.2) (.string ((rd_T71 t442 t430).f1))) (fun _ hk => hk.2) (.int .i64 ((rd_T71 t442 t430).f2))) (fun _ hk => hk.2) (.int .i64 (((rd_T71 t442 t430).f1).size : Int))) (fun _ h_ => h_.1)))); (case side2 => exact (Kd.R_reads' HO444.out).2.1); rintro e w39 ⟨v452, rfl, ho0, hb⟩; refine ⟨_, rfl, ?_⟩; have HO453 := a_ (Kd.R_lower (Kd.R_newB (Kd.R_new' ho0 (Kd.R_lt (by refine rq_ ?_; exact (Kd.R_mono (Kd.R_far (p := ⟨gb450, 2, none⟩) (Kd.R_far (p := ⟨gb450, 2, none⟩) (Kd.R_far (p := ⟨gb450, 1, none⟩) (Kd.R_far (p := ⟨gb450, 0, none⟩) (Kd.R_mono HO444.out (fun k_ hk => (⟨hk, hk.2⟩ : _ ∧ k_ ≠ gb450))) (fun _ hk => hk.2) (.string ((rd_T71 t442 t430).f0))) (fun _ hk => hk.2) (.string ((rd_T71 t442 t430).f1))) (fun _ hk => hk.2) (.int .i64 ((rd_T71 t442 t430).f2))) (fun _ hk => hk.2) (.int .i64 (((rd_T71 t442 t430).f1).size : Int))) (fun _ h_ => h_.1))))) (g := gb450) (o := .cells #[.string ((rd_T71 t442 t430).f0), .string ((rd_T71 t442 t430).f1), .int .i64 (((rd_T71 t442 t430).f1).size : Int)] 71 (0, 0)) (bp_0 BK450)) (below_size (bl_4 HB GE427 GE428 GE448 GE450))); replace HO444 := a_ (Kd.R_elder' (by refine rq_ ?_; exact (Kd.R_mono (Kd.R_far (p := ⟨gb450, 2, none⟩) (Kd.R_far (p := ⟨gb450, 2, none⟩) (Kd.R_far (p := ⟨gb450, 1, none⟩) (Kd.R_far (p := ⟨gb450, 0, none⟩) (Kd.R_mono HO444.out (fun k_ hk => (⟨hk, hk.2⟩ : _ ∧ k_ ≠ gb450))) (fun _ hk => hk.2) (.string ((rd_T71 t442 t430).f0))) (fun _ hk => hk.2) (.string ((rd_T71 t442 t430).f1))) (fun _ hk => hk.2) (.int .i64 ((rd_T71 t442 t430).f2))) (fun _ hk => hk.2) (.int .i64 (((rd_T71 t442 t430).f1).size : Int))) (fun _ h_ => h_.1))) (Kd.R_base ho0) hb); replace BK427 := a_ (blk_below (g := gb427) (o := .cells #[.slice A0_0 l0_0.length c0_0, .bool a0_1, .int .i64 a0_2] 24 (0, 0)) (bp_1 BK427 NB427_450) hb); replace BK428 := a_ (blk_below (g := gb428) (o := .cells #[.slice none 0 0, .bool false, .int .i64 0] 24 (0, 0)) (bp_1 BK428 NB428_450) hb); replace BK448 := a_ (blk_below (g := gb448) (o := .cells #[.slice (some ad449) t442.length co29, .bool t445, .int .i64 t446] 24 (0, 0)) (bp_1 BK448 NB448_450) hb); replace BK450 := a_ (blk_below (g := gb450) (o := .cells #[.string ((rd_T71 t442 t430).f0), .string ((rd_T71 t442 t430).f1), .int .i64 (((rd_T71 t442 t430).f1).size : Int)] 71 (0, 0)) (bp_0 BK450) hb); replace HB := hB_ (bl_4 HB GE427 GE428 GE448 GE450) hb; (try clear hb); (try clear ho0); obtain ⟨Ao40, co40, eo40⟩ := Kd.R_slice HO453.out; subst eo40; obtain ⟨hcz41_0, hcz41_1, hcz41_2, hfz41_0, hfz41_1, hfz41_2⟩ := c3_ BK428))
     refine bodyPost_ret (results_ct rfl _ _ gb428 24 #[.slice Ao40 t451.length co40, .bool t454, .int .i64 t455] (0, 0) _ rfl (bp_0 BK428) Try.underlying24 rfl (by kernel_rfl)) rfl ?_
     exact ⟨_, fz_, by refine rq_ ?_; exact Kd.R_mono (Kd.R_far (p := ⟨gb428, 2, none⟩) (Kd.R_far (p := ⟨gb428, 1, none⟩) (Kd.R_far (p := ⟨gb428, 0, none⟩) (Kd.R_types HO453.out BK428.out (by decide)) (fun _ hk => hk.2) (.slice Ao40 t451.length co40)) (fun _ hk => hk.2) (.bool t454)) (fun _ hk => hk.2) (.int .i64 t455)) (fun _ hk => trivial), bl_4 HB GE427 GE428 GE448 GE450⟩end Go.Proofs.Ytpigjmjbfpipnaa.PD
