-- By a program of this session.
import Derived.Test.YtcdibodjkdoknaaPMx0
import Derived.Test.YtcdibodjkdoknaaPMx1
import Derived.Test.YtcdibodjkdoknaaPMx6
import Derived.Test.YtcdibodjkdoknaaPMx15
import Derived.Test.YtcdibodjkdoknaaPMx18
namespace Go.Proofs.Ytcdibodjkdoknaa.PM
open Go.RowKit YtcdibodjkdoknaaW.PrintWords YtcdibodjkdoknaaW.PrintLast YtcdibodjkdoknaaW.PrintMore Sh Ytcdibodjkdoknaa.Op
attribute [local go_sem] max2_int min2_int max_two min_two max_three min_three max_four min_four
set_option linter.unusedVariables false
set_option maxHeartbeats 80000000
set_option maxRecDepth 100000
set_option linter.unusedSimpArgs false

def gafferref03_Same.l0 : Nat → List (S67) → List (S67) → Int → Int → Option (Bool)
 | 0, _, _, _, _ => none
 | k + 1, x0, x1, x12, x13 => if x13 < x12 then (if 0 ≤ x13 then (if x13 < (x0.length : Int) then (if x13 < (x1.length : Int) then ((gafferref03_SameEntry.f k ((rd_T67 x0 x13).f0) ((rd_T67 x0 x13).f1) ((rd_T67 x0 x13).f2) ((rd_T67 x0 x13).f3) ((rd_T67 x0 x13).f4) ((rd_T67 x1 x13).f0) ((rd_T67 x1 x13).f1) ((rd_T67 x1 x13).f2) ((rd_T67 x1 x13).f3) ((rd_T67 x1 x13).f4)).bind fun t393 => (if t393 = true then (gafferref03_Same.l0 k x0 x1 x12 (wrap64 (x13 + 1))) else (some false))) else (none)) else (none)) else (none)) else (some true)
def gafferref03_Same.f (k : Nat) (l0 : List (S67)) (l1 : List (S67)) : Option (Bool) := if (l0.length : Int) = (l1.length : Int) then (gafferref03_Same.l0 k l0 l1 (l0.length : Int) 0) else (some false)
theorem gafferref03_Same.mono_l : ∀ k, (∀ y0 y1 y2 y3, LeO (gafferref03_Same.l0 k y0 y1 y2 y3) (gafferref03_Same.l0 (k + 1) y0 y1 y2 y3))
 | 0 => fun _ _ _ _ r h => by simp [gafferref03_Same.l0] at h
 | k + 1 => by
  have ih0 := gafferref03_Same.mono_l k
  ·intro y0 y1 y2 y3
   unfold gafferref03_Same.l0
   repeat' with_reducible first | apply ih0 | apply gafferref03_SameEntry.mono | apply LeO.refl | apply LeO.none | apply LeO.ite | refine LeO.bind ?_ (fun _ => ?_)
theorem gafferref03_Same.mono : ∀ a0 a1 k, LeO (gafferref03_Same.f k a0 a1) (gafferref03_Same.f (k + 1) a0 a1) := by
 intro a0 a1 k
 have ih0 := gafferref03_Same.mono_l k
 unfold gafferref03_Same.f
 repeat' with_reducible first | apply ih0 | apply gafferref03_SameEntry.mono | apply LeO.refl | apply LeO.none | apply LeO.ite | refine LeO.bind ?_ (fun _ => ?_)
def gafferref03_Same.T6 : Bool × List (List Nat × List Nat) := (true, [([], []), ([], []), ([0, 1], [0, 1]), ([2], [2]), ([], []), ([], []), ([4, 5], [4, 5]), ([6], [6]), ([3, 7], [3, 7]), ([8], [8])])
def gafferref03_Same.B6 : List Nat := [0, 0, 3, 7, 0, 0, 48, 112, 255, 511]
theorem gafferref03_Same.tab6 : rtab .any (opsOf Try.f33 6) = gafferref03_Same.T6 := by kernel_rfl
theorem gafferref03_Same.bits6 : waitsOk gafferref03_Same.T6.2 gafferref03_Same.B6 = true := by kernel_rfl
theorem gafferref03_Same.calls (k : Nat) (A0 : Option Addr) (c0 : Nat) (l0 : List (S67)) (A1 : Option Addr) (c1 : Nat) (l1 : List (S67)) (r : Bool) (w : World) (hr0 : Kd.C k67 w A0 l0.length l0) (hc0 : l0.length ≤ c0) (hr1 : Kd.C k67 w A1 l1.length l1) (hc1 : l1.length ≤ c1) (h : gafferref03_Same.f k l0 l1 = some r) :
  Calls Try.prog 33 #[.slice A0 l0.length c0, .slice A1 l1.length c1] w fun e w' => e = .returned (.bool r) ∧ Below w.heap.size w w' := by
 have hu67 := Try.underlying67
 have HR0 := a_ hr0
 have HC0 := a_ hc0
 clear hr0 hc0
 have HR1 := a_ hr1
 have HC1 := a_ hc1
 clear hr1 hc1
 have HB := a_ (Below.refl w.heap.size w)
 have H := h
 unfold gafferref03_Same.f at H
 clear h
 by_cases c3 : (l0.length : Int) = (l1.length : Int)
 rotate_left
 ·rw [if_neg c3] at H
  have c3b0 : ((l0.length : Int) == (l1.length : Int)) = false := beq_eq_false_iff_ne.mpr c3
  have c3b1 : ((l0.length : Int) != (l1.length : Int)) = true := bne_iff_ne.mpr c3
  have c3b2 : (l0.length == l1.length) = false := by first | simpa using c3 | (simp at c3 ⊢; omega)
  obtain rfl := Option.some.inj H
  go_enter Try.func33, Try.ntmps33
  go_wp2
  go_ret
  exact ⟨fz_, bl_ HB⟩


 rw [if_pos c3] at H
 have c3b0 : ((l0.length : Int) == (l1.length : Int)) = true := beq_iff_eq.mpr c3
 have c3b1 : ((l0.length : Int) != (l1.length : Int)) = false := bne_eq_false_iff_eq.mpr c3
 have c3b2 : (l0.length == l1.length) = true := by first | simpa using c3 | (simp at c3 ⊢; omega)
 clear c3
 have H' := a_ H
 clear H
 go_enter Try.func33, Try.ntmps33
 go_wp2
 go_loopg [13] k (fun kq v13 w' => ∃ (x13_1 : Int), v13 = .int .i64 x13_1 ∧ Aside0 (gafferref03_Same.l0 kq l0 l1 (l0.length : Int) x13_1 = some r) ∧ Aside0 (kq ≤ k) ∧ Aside0 (Below w.heap.size w w'))
 case atStart => exact ⟨(0), fz_, H', ⟨Nat.le_refl _⟩, ⟨bl_ HB⟩⟩
 case round =>
  clear H'
  try clear c1
  try clear p2
  try clear c3
  try clear c3b0
  try clear c3b1
  try clear c3b2
  obtain ⟨x13_1, rfl, HA, HK1, HB⟩ := hrel
  cases gk with
  | zero => exact absurd HA.out (by simp [gafferref03_Same.l0])
  | succ k1 =>
   have H := HA.out
   clear HA
   simp only [gafferref03_Same.l0] at H
   by_cases c4 : x13_1 < (l0.length : Int)
   rotate_left
   ·rw [if_neg c4] at H
    have c4b0 : decide (x13_1 < (l0.length : Int)) = false := decide_eq_false c4
    clear c4
    obtain rfl := Option.some.inj H
    go_wp2
    go_ret
    exact ⟨fz_, bl_ HB⟩
   rw [if_pos c4] at H
   have c4b0 : decide (x13_1 < (l0.length : Int)) = true := decide_eq_true c4
   clear c4
   by_cases c5 : 0 ≤ x13_1
   rotate_left
   ·rw [if_neg c5] at H
    exact absurd H (by simp)
   rw [if_pos c5] at H
   have c5b0 : decide (0 ≤ x13_1) = true := decide_eq_true c5
   clear c5
   by_cases c6 : x13_1 < (l0.length : Int)
   rotate_left
   ·rw [if_neg c6] at H
    exact absurd H (by simp)
   rw [if_pos c6] at H
   have c6b0 : decide (x13_1 < (l0.length : Int)) = true := decide_eq_true c6
   clear c6
   by_cases c7 : x13_1 < (l1.length : Int)
   rotate_left
   ·rw [if_neg c7] at H
    exact absurd H (by simp)
   rw [if_pos c7] at H
   have c7b0 : decide (x13_1 < (l1.length : Int)) = true := decide_eq_true c7
   clear c7
   obtain ⟨t393, A80, H⟩ := Option.bind_eq_some_iff.mp H
   try dsimp only at H
   have A8 := a_ A80
   clear A80
   by_cases c9 : t393 = true
   rotate_left
   ·replace c9 := Bool.eq_false_iff.mpr c9
    subst c9
    have H1 : (some false) = some r := by rw [if_neg (show ¬ (false = true) by decide)] at H; exact H
    clear H
    have H := H1
    clear H1
    obtain rfl := Option.some.inj H
    try go_wp2
    have n0_ := a_ (below_drew1 HB.out)
    clear HB
    have HB := n0_
    clear n0_
    have p391 : 0 ≤ (x13_1 : Int) := od_
    have q391 : x13_1 < (l0.length : Int) := od_
    obtain ⟨ad391, A391_4, c391_4, e391, hx391_0, hx391_1, hx391_2, hx391_3, hx391_4, hl391_4, hi391_4⟩ := at_T67 HR0.out x13_1 p391 q391
    have hw391_4 := hx391_4
    have hw391_3 := hx391_3
    have hw391_2 := hx391_2
    have hw391_1 := hx391_1
    have hw391_0 := hx391_0
    cases e391
    replace hx391_0 := hc_ HB hx391_0
    replace hx391_1 := hc_ HB hx391_1
    replace hx391_2 := hc_ HB hx391_2
    replace hx391_3 := hc_ HB hx391_3
    replace hx391_4 := hc_ HB hx391_4
    have HR391_4 := a_ hi391_4
    have HC391_4 := a_ hl391_4
    clear hi391_4 hl391_4
    replace p391 := eq_true p391
    replace q391 := eq_true q391
    have p392 : 0 ≤ (x13_1 : Int) := od_
    have q392 : x13_1 < (l1.length : Int) := od_
    obtain ⟨ad392, A392_4, c392_4, e392, hx392_0, hx392_1, hx392_2, hx392_3, hx392_4, hl392_4, hi392_4⟩ := at_T67 HR1.out x13_1 p392 q392
    have hw392_4 := hx392_4
    have hw392_3 := hx392_3
    have hw392_2 := hx392_2
    have hw392_1 := hx392_1
    have hw392_0 := hx392_0
    cases e392
    replace hx392_0 := hc_ HB hx392_0
    replace hx392_1 := hc_ HB hx392_1
    replace hx392_2 := hc_ HB hx392_2
    replace hx392_3 := hc_ HB hx392_3
    replace hx392_4 := hc_ HB hx392_4
    have HR392_4 := a_ hi392_4
    have HC392_4 := a_ hl392_4
    clear hi392_4 hl392_4
    replace p392 := eq_true p392
    replace q392 := eq_true q392
    refine start_ (n := 10) (S := fun w' => w'.cell? (ad391.add ((x13_1).toNat * 5)) = some (.int .u64 ((rd_T67 l0 x13_1).f0)) ∧ w'.cell? ⟨(ad391.add ((x13_1).toNat * 5)).block, (ad391.add ((x13_1).toNat * 5)).off + 1, none⟩ = some (.int .u64 ((rd_T67 l0 x13_1).f1)) ∧ w'.cell? ⟨(ad391.add ((x13_1).toNat * 5)).block, (ad391.add ((x13_1).toNat * 5)).off + 2, none⟩ = some (.int .u8 ((rd_T67 l0 x13_1).f2)) ∧ w'.cell? ⟨(ad391.add ((x13_1).toNat * 5)).block, (ad391.add ((x13_1).toNat * 5)).off + 3, none⟩ = some (.string ((rd_T67 l0 x13_1).f3)) ∧ w'.cell? ⟨(ad391.add ((x13_1).toNat * 5)).block, (ad391.add ((x13_1).toNat * 5)).off + 4, none⟩ = some (.slice A391_4 ((rd_T67 l0 x13_1).f4).length c391_4) ∧ w'.cell? (ad392.add ((x13_1).toNat * 5)) = some (.int .u64 ((rd_T67 l1 x13_1).f0)) ∧ w'.cell? ⟨(ad392.add ((x13_1).toNat * 5)).block, (ad392.add ((x13_1).toNat * 5)).off + 1, none⟩ = some (.int .u64 ((rd_T67 l1 x13_1).f1)) ∧ w'.cell? ⟨(ad392.add ((x13_1).toNat * 5)).block, (ad392.add ((x13_1).toNat * 5)).off + 2, none⟩ = some (.int .u8 ((rd_T67 l1 x13_1).f2)) ∧ w'.cell? ⟨(ad392.add ((x13_1).toNat * 5)).block, (ad392.add ((x13_1).toNat * 5)).off + 3, none⟩ = some (.string ((rd_T67 l1 x13_1).f3)) ∧ w'.cell? ⟨(ad392.add ((x13_1).toNat * 5)).block, (ad392.add ((x13_1).toNat * 5)).off + 4, none⟩ = some (.slice A392_4 ((rd_T67 l1 x13_1).f4).length c392_4)) (ds := []) #[false, false, false, false, false, false, false, false, false, false] (by kernel_rfl) rfl rfl ⟨((HB.out.cell (World.block_lt_of_cell? w _ hw391_0)).trans hw391_0), ((HB.out.cell (World.block_lt_of_cell? w _ hw391_1)).trans hw391_1), ((HB.out.cell (World.block_lt_of_cell? w _ hw391_2)).trans hw391_2), ((HB.out.cell (World.block_lt_of_cell? w _ hw391_3)).trans hw391_3), ((HB.out.cell (World.block_lt_of_cell? w _ hw391_4)).trans hw391_4), ((HB.out.cell (World.block_lt_of_cell? w _ hw392_0)).trans hw392_0), ((HB.out.cell (World.block_lt_of_cell? w _ hw392_1)).trans hw392_1), ((HB.out.cell (World.block_lt_of_cell? w _ hw392_2)).trans hw392_2), ((HB.out.cell (World.block_lt_of_cell? w _ hw392_3)).trans hw392_3), ((HB.out.cell (World.block_lt_of_cell? w _ hw392_4)).trans hw392_4)⟩ (fun hHeld => ?_); refine with_tabW gafferref03_Same.tab6 gafferref03_Same.bits6 (fun HT_ HW_ => ?_)
    generalize wr.drew = w12 at HB HR391_4 HR392_4 hx391_0 hx391_1 hx391_2 hx391_3 hx391_4 hx392_0 hx392_1 hx392_2 hx392_3 hx392_4 hHeld ⊢
    refine pu_ HT_ 0 (some 16) ?_
    refine pu_ HT_ 1 (some 17) ?_
    refine pu_ HT_ 2 (some 18) ?_
    refine pu_ HT_ 4 (some 20) ?_
    refine pu_ HT_ 5 (some 21) ?_
    refine pu_ HT_ 6 (some 22) ?_
    refine ty_ HT_ HW_ 3 (some 19) hHeld ?_
    refine ty_ HT_ HW_ 7 (some 23) hHeld ?_
    refine on_ HT_ 8 (some 24) (fun K hK => ?_)
    refine goes_ Try.func65 (by kernel_rfl) rfl #[.agg #[.int .u64 ((rd_T67 l0 x13_1).f0), .int .u64 ((rd_T67 l0 x13_1).f1), .int .u8 ((rd_T67 l0 x13_1).f2), .string ((rd_T67 l0 x13_1).f3), .slice A391_4 ((rd_T67 l0 x13_1).f4).length c391_4], .agg #[.int .u64 ((rd_T67 l1 x13_1).f0), .int .u64 ((rd_T67 l1 x13_1).f1), .int .u8 ((rd_T67 l1 x13_1).f2), .string ((rd_T67 l1 x13_1).f3), .slice A392_4 ((rd_T67 l1 x13_1).f4).length c392_4]] (by rfl) rfl rfl (ar_) ?_
    with_reducible refine (gafferref03_SameEntry.calls k1 ((rd_T67 l0 x13_1).f0) ((rd_T67 l0 x13_1).f1) ((rd_T67 l0 x13_1).f2) ((rd_T67 l0 x13_1).f3) _ _ ((rd_T67 l0 x13_1).f4) ((rd_T67 l1 x13_1).f0) ((rd_T67 l1 x13_1).f1) ((rd_T67 l1 x13_1).f2) ((rd_T67 l1 x13_1).f3) _ _ ((rd_T67 l1 x13_1).f4) false _ ?side1 ?side2 ?side3 ?side4 A8.out).mono ?_
    (case side1 => exact cl_ (Kd.C_below HR391_4.out HB.out))
    (case side2 => exact HC391_4.out)
    (case side3 => exact cl_ (Kd.C_below HR392_4.out HB.out))
    (case side4 => exact HC392_4.out)
    rintro e w13 ⟨rfl, hb⟩
    refine ⟨_, rfl, ?_⟩
    have n0_ := hB_ (bl_ HB) hb
    clear HB
    have HB := n0_
    clear n0_
    (try clear hb)
    (try clear hb2)
    (try clear hk)
    (try clear hi)
    refine hK.out _ _ ⟨((HB.out.cell (World.block_lt_of_cell? w _ hw391_0)).trans hw391_0), ((HB.out.cell (World.block_lt_of_cell? w _ hw391_1)).trans hw391_1), ((HB.out.cell (World.block_lt_of_cell? w _ hw391_2)).trans hw391_2), ((HB.out.cell (World.block_lt_of_cell? w _ hw391_3)).trans hw391_3), ((HB.out.cell (World.block_lt_of_cell? w _ hw391_4)).trans hw391_4), ((HB.out.cell (World.block_lt_of_cell? w _ hw392_0)).trans hw392_0), ((HB.out.cell (World.block_lt_of_cell? w _ hw392_1)).trans hw392_1), ((HB.out.cell (World.block_lt_of_cell? w _ hw392_2)).trans hw392_2), ((HB.out.cell (World.block_lt_of_cell? w _ hw392_3)).trans hw392_3), ((HB.out.cell (World.block_lt_of_cell? w _ hw392_4)).trans hw392_4)⟩ (fun hHeld => ?_)
    clear hK K
    refine nop_ ?_
    refine pu_ HT_ 9 (some 25) ?_
    refine done_ (done_of HT_.out (by kernel_rfl)) ?_
    try go_wp2
    go_ret
    exact ⟨fz_, bl_ HB⟩
   subst c9
   have H1 : (gafferref03_Same.l0 k1 l0 l1 (l0.length : Int) (wrap64 (x13_1 + 1))) = some r := by rw [if_pos rfl] at H; exact H
   clear H
   have H := H1
   clear H1
   have H' := a_ H
   clear H
   try go_wp2
   have n0_ := a_ (below_drew1 HB.out)
   clear HB
   have HB := n0_
   clear n0_
   have p391 : 0 ≤ (x13_1 : Int) := od_
   have q391 : x13_1 < (l0.length : Int) := od_
   obtain ⟨ad391, A391_4, c391_4, e391, hx391_0, hx391_1, hx391_2, hx391_3, hx391_4, hl391_4, hi391_4⟩ := at_T67 HR0.out x13_1 p391 q391
   have hw391_4 := hx391_4
   have hw391_3 := hx391_3
   have hw391_2 := hx391_2
   have hw391_1 := hx391_1
   have hw391_0 := hx391_0
   cases e391
   replace hx391_0 := hc_ HB hx391_0
   replace hx391_1 := hc_ HB hx391_1
   replace hx391_2 := hc_ HB hx391_2
   replace hx391_3 := hc_ HB hx391_3
   replace hx391_4 := hc_ HB hx391_4
   have HR391_4 := a_ hi391_4
   have HC391_4 := a_ hl391_4
   clear hi391_4 hl391_4
   replace p391 := eq_true p391
   replace q391 := eq_true q391
   have p392 : 0 ≤ (x13_1 : Int) := od_
   have q392 : x13_1 < (l1.length : Int) := od_
   obtain ⟨ad392, A392_4, c392_4, e392, hx392_0, hx392_1, hx392_2, hx392_3, hx392_4, hl392_4, hi392_4⟩ := at_T67 HR1.out x13_1 p392 q392
   have hw392_4 := hx392_4
   have hw392_3 := hx392_3
   have hw392_2 := hx392_2
   have hw392_1 := hx392_1
   have hw392_0 := hx392_0
   cases e392
   replace hx392_0 := hc_ HB hx392_0
   replace hx392_1 := hc_ HB hx392_1
   replace hx392_2 := hc_ HB hx392_2
   replace hx392_3 := hc_ HB hx392_3
   replace hx392_4 := hc_ HB hx392_4
   have HR392_4 := a_ hi392_4
   have HC392_4 := a_ hl392_4
   clear hi392_4 hl392_4
   replace p392 := eq_true p392
   replace q392 := eq_true q392
   refine start_ (n := 10) (S := fun w' => w'.cell? (ad391.add ((x13_1).toNat * 5)) = some (.int .u64 ((rd_T67 l0 x13_1).f0)) ∧ w'.cell? ⟨(ad391.add ((x13_1).toNat * 5)).block, (ad391.add ((x13_1).toNat * 5)).off + 1, none⟩ = some (.int .u64 ((rd_T67 l0 x13_1).f1)) ∧ w'.cell? ⟨(ad391.add ((x13_1).toNat * 5)).block, (ad391.add ((x13_1).toNat * 5)).off + 2, none⟩ = some (.int .u8 ((rd_T67 l0 x13_1).f2)) ∧ w'.cell? ⟨(ad391.add ((x13_1).toNat * 5)).block, (ad391.add ((x13_1).toNat * 5)).off + 3, none⟩ = some (.string ((rd_T67 l0 x13_1).f3)) ∧ w'.cell? ⟨(ad391.add ((x13_1).toNat * 5)).block, (ad391.add ((x13_1).toNat * 5)).off + 4, none⟩ = some (.slice A391_4 ((rd_T67 l0 x13_1).f4).length c391_4) ∧ w'.cell? (ad392.add ((x13_1).toNat * 5)) = some (.int .u64 ((rd_T67 l1 x13_1).f0)) ∧ w'.cell? ⟨(ad392.add ((x13_1).toNat * 5)).block, (ad392.add ((x13_1).toNat * 5)).off + 1, none⟩ = some (.int .u64 ((rd_T67 l1 x13_1).f1)) ∧ w'.cell? ⟨(ad392.add ((x13_1).toNat * 5)).block, (ad392.add ((x13_1).toNat * 5)).off + 2, none⟩ = some (.int .u8 ((rd_T67 l1 x13_1).f2)) ∧ w'.cell? ⟨(ad392.add ((x13_1).toNat * 5)).block, (ad392.add ((x13_1).toNat * 5)).off + 3, none⟩ = some (.string ((rd_T67 l1 x13_1).f3)) ∧ w'.cell? ⟨(ad392.add ((x13_1).toNat * 5)).block, (ad392.add ((x13_1).toNat * 5)).off + 4, none⟩ = some (.slice A392_4 ((rd_T67 l1 x13_1).f4).length c392_4)) (ds := []) #[false, false, false, false, false, false, false, false, false, false] (by kernel_rfl) rfl rfl ⟨((HB.out.cell (World.block_lt_of_cell? w _ hw391_0)).trans hw391_0), ((HB.out.cell (World.block_lt_of_cell? w _ hw391_1)).trans hw391_1), ((HB.out.cell (World.block_lt_of_cell? w _ hw391_2)).trans hw391_2), ((HB.out.cell (World.block_lt_of_cell? w _ hw391_3)).trans hw391_3), ((HB.out.cell (World.block_lt_of_cell? w _ hw391_4)).trans hw391_4), ((HB.out.cell (World.block_lt_of_cell? w _ hw392_0)).trans hw392_0), ((HB.out.cell (World.block_lt_of_cell? w _ hw392_1)).trans hw392_1), ((HB.out.cell (World.block_lt_of_cell? w _ hw392_2)).trans hw392_2), ((HB.out.cell (World.block_lt_of_cell? w _ hw392_3)).trans hw392_3), ((HB.out.cell (World.block_lt_of_cell? w _ hw392_4)).trans hw392_4)⟩ (fun hHeld => ?_); refine with_tabW gafferref03_Same.tab6 gafferref03_Same.bits6 (fun HT_ HW_ => ?_)
   generalize wr.drew = w10 at HB HR391_4 HR392_4 hx391_0 hx391_1 hx391_2 hx391_3 hx391_4 hx392_0 hx392_1 hx392_2 hx392_3 hx392_4 hHeld ⊢
   refine pu_ HT_ 0 (some 16) ?_
   refine pu_ HT_ 1 (some 17) ?_
   refine pu_ HT_ 2 (some 18) ?_
   refine pu_ HT_ 4 (some 20) ?_
   refine pu_ HT_ 5 (some 21) ?_
   refine pu_ HT_ 6 (some 22) ?_
   refine ty_ HT_ HW_ 3 (some 19) hHeld ?_
   refine ty_ HT_ HW_ 7 (some 23) hHeld ?_
   refine on_ HT_ 8 (some 24) (fun K hK => ?_)
   refine goes_ Try.func65 (by kernel_rfl) rfl #[.agg #[.int .u64 ((rd_T67 l0 x13_1).f0), .int .u64 ((rd_T67 l0 x13_1).f1), .int .u8 ((rd_T67 l0 x13_1).f2), .string ((rd_T67 l0 x13_1).f3), .slice A391_4 ((rd_T67 l0 x13_1).f4).length c391_4], .agg #[.int .u64 ((rd_T67 l1 x13_1).f0), .int .u64 ((rd_T67 l1 x13_1).f1), .int .u8 ((rd_T67 l1 x13_1).f2), .string ((rd_T67 l1 x13_1).f3), .slice A392_4 ((rd_T67 l1 x13_1).f4).length c392_4]] (by rfl) rfl rfl (ar_) ?_
   with_reducible refine (gafferref03_SameEntry.calls k1 ((rd_T67 l0 x13_1).f0) ((rd_T67 l0 x13_1).f1) ((rd_T67 l0 x13_1).f2) ((rd_T67 l0 x13_1).f3) _ _ ((rd_T67 l0 x13_1).f4) ((rd_T67 l1 x13_1).f0) ((rd_T67 l1 x13_1).f1) ((rd_T67 l1 x13_1).f2) ((rd_T67 l1 x13_1).f3) _ _ ((rd_T67 l1 x13_1).f4) true _ ?side1 ?side2 ?side3 ?side4 A8.out).mono ?_
   (case side1 => exact cl_ (Kd.C_below HR391_4.out HB.out))
   (case side2 => exact HC391_4.out)
   (case side3 => exact cl_ (Kd.C_below HR392_4.out HB.out))
   (case side4 => exact HC392_4.out)
   rintro e w11 ⟨rfl, hb⟩
   refine ⟨_, rfl, ?_⟩
   have n0_ := hB_ (bl_ HB) hb
   clear HB
   have HB := n0_
   clear n0_
   (try clear hb)
   (try clear hb2)
   (try clear hk)
   (try clear hi)
   refine hK.out _ _ ⟨((HB.out.cell (World.block_lt_of_cell? w _ hw391_0)).trans hw391_0), ((HB.out.cell (World.block_lt_of_cell? w _ hw391_1)).trans hw391_1), ((HB.out.cell (World.block_lt_of_cell? w _ hw391_2)).trans hw391_2), ((HB.out.cell (World.block_lt_of_cell? w _ hw391_3)).trans hw391_3), ((HB.out.cell (World.block_lt_of_cell? w _ hw391_4)).trans hw391_4), ((HB.out.cell (World.block_lt_of_cell? w _ hw392_0)).trans hw392_0), ((HB.out.cell (World.block_lt_of_cell? w _ hw392_1)).trans hw392_1), ((HB.out.cell (World.block_lt_of_cell? w _ hw392_2)).trans hw392_2), ((HB.out.cell (World.block_lt_of_cell? w _ hw392_3)).trans hw392_3), ((HB.out.cell (World.block_lt_of_cell? w _ hw392_4)).trans hw392_4)⟩ (fun hHeld => ?_)
   clear hK K
   refine nop_ ?_
   refine pu_ HT_ 9 (some 25) ?_
   refine done_ (done_of HT_.out (by kernel_rfl)) ?_
   try go_wp2
   go_roundg k1
   case measure => have := HK1.out; omega
   case rel => exact ⟨(wrap64 (x13_1 + 1)), fz_, H', ⟨by have := HK1.out; omega⟩, ⟨bl_ HB⟩⟩
def gafferref13_Same.f (k : Nat) (a0_0 : Int) (a0_1 : Int) (a0_2 : Int) (a0_3 : Int) (a0_4 : Int) (a0_5 : Bool) (l0_6 : List (S67)) (a0_7 : Int) (a0_8 : Int) (l0_9 : List Int) (a0_10 : ByteArray) (a1_0 : Int) (a1_1 : Int) (a1_2 : Int) (a1_3 : Int) (a1_4 : Int) (a1_5 : Bool) (l1_6 : List (S67)) (a1_7 : Int) (a1_8 : Int) (l1_9 : List Int) (a1_10 : ByteArray) : Option (Bool) := if a0_0 = a1_0 then (if a0_1 = a1_1 then (if a0_2 = a1_2 then (if a0_3 = a1_3 then (if a0_4 = a1_4 then (if (a0_5 == a1_5) = true then ((gafferref03_Same.f k l0_6 l1_6).bind fun t396 => (if t396 = true then ((gafferref05_Same.f k a0_7 a0_8 l0_9 a0_10 a1_7 a1_8 l1_9 a1_10).bind fun t397 => (some t397)) else (some false))) else (some false)) else (some false)) else (some false)) else (some false)) else (some false)) else (some false)
theorem gafferref13_Same.mono : ∀ a0 a1 a2 a3 a4 a5 a6 a7 a8 a9 a10 a11 a12 a13 a14 a15 a16 a17 a18 a19 a20 a21 k, LeO (gafferref13_Same.f k a0 a1 a2 a3 a4 a5 a6 a7 a8 a9 a10 a11 a12 a13 a14 a15 a16 a17 a18 a19 a20 a21) (gafferref13_Same.f (k + 1) a0 a1 a2 a3 a4 a5 a6 a7 a8 a9 a10 a11 a12 a13 a14 a15 a16 a17 a18 a19 a20 a21) := by
 intro a0 a1 a2 a3 a4 a5 a6 a7 a8 a9 a10 a11 a12 a13 a14 a15 a16 a17 a18 a19 a20 a21 k
 unfold gafferref13_Same.f
 repeat' with_reducible first | apply gafferref03_Same.mono | apply gafferref05_Same.mono | apply LeO.refl | apply LeO.none | apply LeO.ite | refine LeO.bind ?_ (fun _ => ?_)
theorem gafferref13_Same.calls (k : Nat) (a0_0 : Int) (a0_1 : Int) (a0_2 : Int) (a0_3 : Int) (a0_4 : Int) (a0_5 : Bool) (A0_6 : Option Addr) (c0_6 : Nat) (l0_6 : List (S67)) (a0_7 : Int) (a0_8 : Int) (A0_9 : Option Addr) (c0_9 : Nat) (l0_9 : List Int) (a0_10 : ByteArray) (a1_0 : Int) (a1_1 : Int) (a1_2 : Int) (a1_3 : Int) (a1_4 : Int) (a1_5 : Bool) (A1_6 : Option Addr) (c1_6 : Nat) (l1_6 : List (S67)) (a1_7 : Int) (a1_8 : Int) (A1_9 : Option Addr) (c1_9 : Nat) (l1_9 : List Int) (a1_10 : ByteArray) (r : Bool) (w : World) (hr0_6 : Kd.C k67 w A0_6 l0_6.length l0_6) (hc0_6 : l0_6.length ≤ c0_6) (hr0_9 : Kd.C (Kd.int .i64) w A0_9 l0_9.length l0_9) (hc0_9 : l0_9.length ≤ c0_9) (hr1_6 : Kd.C k67 w A1_6 l1_6.length l1_6) (hc1_6 : l1_6.length ≤ c1_6) (hr1_9 : Kd.C (Kd.int .i64) w A1_9 l1_9.length l1_9) (hc1_9 : l1_9.length ≤ c1_9) (h : gafferref13_Same.f k a0_0 a0_1 a0_2 a0_3 a0_4 a0_5 l0_6 a0_7 a0_8 l0_9 a0_10 a1_0 a1_1 a1_2 a1_3 a1_4 a1_5 l1_6 a1_7 a1_8 l1_9 a1_10 = some r) :
  Calls Try.prog 18 #[.agg #[.int .u8 a0_0, .int .u64 a0_1, .int .u64 a0_2, .int .u64 a0_3, .int .u64 a0_4, .bool a0_5, .slice A0_6 l0_6.length c0_6, .int .u64 a0_7, .int .u64 a0_8, .slice A0_9 l0_9.length c0_9, .string a0_10], .agg #[.int .u8 a1_0, .int .u64 a1_1, .int .u64 a1_2, .int .u64 a1_3, .int .u64 a1_4, .bool a1_5, .slice A1_6 l1_6.length c1_6, .int .u64 a1_7, .int .u64 a1_8, .slice A1_9 l1_9.length c1_9, .string a1_10]] w fun e w' => e = .returned (.bool r) ∧ Below w.heap.size w w' := by
 have hu_1 := Try.underlying37
 have hu_2 := Try.underlying35
 have HR_1 := a_ hr0_6
 have HC_1 := a_ hc0_6
 clear hr0_6 hc0_6
 have HR_2 := a_ hr0_9
 have HC_2 := a_ hc0_9
 clear hr0_9 hc0_9
 have HR_3 := a_ hr1_6
 have HC_3 := a_ hc1_6
 clear hr1_6 hc1_6
 have HR_4 := a_ hr1_9
 have HC_4 := a_ hc1_9
 clear hr1_9 hc1_9
 have HB := a_ (Below.refl w.heap.size w)
 have H := h
 unfold gafferref13_Same.f at H
 clear h
 by_cases c_1 : a0_0 = a1_0
 rotate_left
 focus
  rw [if_neg c_1] at H
  have c_2 : (a0_0 == a1_0) = false := beq_eq_false_iff_ne.mpr c_1
  have c_3 : (a0_0 != a1_0) = true := bne_iff_ne.mpr c_1
  obtain rfl := Option.some.inj H
  have L0_ := trivial
 rotate_left
 focus
  rw [if_pos c_1] at H
  have c_2 : (a0_0 == a1_0) = true := beq_iff_eq.mpr c_1
  have c_3 : (a0_0 != a1_0) = false := bne_eq_false_iff_eq.mpr c_1
  clear c_1
  by_cases c_4 : a0_1 = a1_1
  rotate_left
  focus
   rw [if_neg c_4] at H
   have c_5 : (a0_1 == a1_1) = false := beq_eq_false_iff_ne.mpr c_4
   have c_6 : (a0_1 != a1_1) = true := bne_iff_ne.mpr c_4
   obtain rfl := Option.some.inj H
   have L0_ := trivial
  rotate_left
  focus
   rw [if_pos c_4] at H
   have c_5 : (a0_1 == a1_1) = true := beq_iff_eq.mpr c_4
   have c_6 : (a0_1 != a1_1) = false := bne_eq_false_iff_eq.mpr c_4
   clear c_4
   by_cases c_7 : a0_2 = a1_2
   rotate_left
   focus
    rw [if_neg c_7] at H
    have c_8 : (a0_2 == a1_2) = false := beq_eq_false_iff_ne.mpr c_7
    have c_9 : (a0_2 != a1_2) = true := bne_iff_ne.mpr c_7
    obtain rfl := Option.some.inj H
    have L0_ := trivial
   rotate_left
   focus
    rw [if_pos c_7] at H
    have c_8 : (a0_2 == a1_2) = true := beq_iff_eq.mpr c_7
    have c_9 : (a0_2 != a1_2) = false := bne_eq_false_iff_eq.mpr c_7
    clear c_7
    by_cases c_10 : a0_3 = a1_3
    rotate_left
    focus
     rw [if_neg c_10] at H
     have c_11 : (a0_3 == a1_3) = false := beq_eq_false_iff_ne.mpr c_10
     have c_12 : (a0_3 != a1_3) = true := bne_iff_ne.mpr c_10
     obtain rfl := Option.some.inj H
     have L0_ := trivial
    rotate_left
    focus
     rw [if_pos c_10] at H
     have c_11 : (a0_3 == a1_3) = true := beq_iff_eq.mpr c_10
     have c_12 : (a0_3 != a1_3) = false := bne_eq_false_iff_eq.mpr c_10
     clear c_10
     by_cases c_13 : a0_4 = a1_4
     rotate_left
     focus
      rw [if_neg c_13] at H
      have c_14 : (a0_4 == a1_4) = false := beq_eq_false_iff_ne.mpr c_13
      have c_15 : (a0_4 != a1_4) = true := bne_iff_ne.mpr c_13
      obtain rfl := Option.some.inj H
      have L0_ := trivial
     rotate_left
     focus
      rw [if_pos c_13] at H
      have c_14 : (a0_4 == a1_4) = true := beq_iff_eq.mpr c_13
      have c_15 : (a0_4 != a1_4) = false := bne_eq_false_iff_eq.mpr c_13
      clear c_13
      by_cases c_16 : (a0_5 == a1_5) = true
      rotate_left
      focus
       rw [if_neg c_16] at H
       have c_17 : (a0_5 == a1_5) = false := by simpa using c_16
       (try (have c_18 : decide (a0_5 = a1_5) = false := by simpa using c_16))
       (try (have c_19 : (a0_5 == a1_5) = false := by simpa using c_16))
       (try (have c_20 : ¬ (a0_5 = a1_5) := by simpa using c_16))
       clear c_16
       obtain rfl := Option.some.inj H
       have L0_ := trivial
      rotate_left
      focus
       rw [if_pos c_16] at H
       have c_17 : (a0_5 == a1_5) = true := c_16
       (try (have c_18 : decide (a0_5 = a1_5) = true := by simpa using c_16))
       (try (have c_19 : (a0_5 == a1_5) = true := by simpa using c_16))
       clear c_16
       obtain ⟨t_1, A_1, H⟩ := Option.bind_eq_some_iff.mp H
       try dsimp only at H
       have A_2 := a_ A_1
       clear A_1
       by_cases c_20 : t_1 = true
       rotate_left
       focus
        replace c_20 := Bool.eq_false_iff.mpr c_20
        subst c_20
        rw [if_neg (show ¬ (false = true) by decide)] at H
        obtain rfl := Option.some.inj H
        have L0_ := trivial
       rotate_left
       subst c_20
       rw [if_pos rfl] at H
       obtain ⟨t_2, A_3, H⟩ := Option.bind_eq_some_iff.mp H
       try dsimp only at H
       have A_4 := a_ A_3
       clear A_3
       obtain rfl := Option.some.inj H
       have L1_ := trivial
 all_goals
  go_enter Try.func18, Try.ntmps18
  first
  | (have _ := L0_
     go_wp2_with (first | ((with_reducible refine gd_ 2 ?_); refine bx_ 2 #[.int .u8 a0_0, .int .u64 a0_1, .int .u64 a0_2, .int .u64 a0_3, .int .u64 a0_4, .bool a0_5, .slice A0_6 l0_6.length c0_6, .int .u64 a0_7, .int .u64 a0_8, .slice A0_9 l0_9.length c0_9, .string a0_10] 37 ?_; intro gb_1 hg w_1 hbox hb; have BK_1 := a_ (hbox); have GE_1 := a_ (bs_0 hg HB); replace HB := hB_ (bl_ HB) hb; clear hb hbox hg) | ((with_reducible refine gd_ 3 ?_); refine bx_ 3 #[.int .u8 a1_0, .int .u64 a1_1, .int .u64 a1_2, .int .u64 a1_3, .int .u64 a1_4, .bool a1_5, .slice A1_6 l1_6.length c1_6, .int .u64 a1_7, .int .u64 a1_8, .slice A1_9 l1_9.length c1_9, .string a1_10] 37 ?_; intro gb_2 hg w_2 hbox hb; have BK_2 := a_ (hbox); have GE_2 := a_ (bs_1 hg HB GE_1); replace HB := hB_ (bl_1 HB GE_1) hb; have NB_1 := nB_ hg BK_1; have NB_2 := nC_ hg BK_1; replace BK_1 := bB_ BK_1 hb; clear hb hbox hg; have hnb_1 := NB_1.out; have hnc_1 := NB_2.out; obtain ⟨_, _, _, _, _, _, _, _, _, _, _, _, _, _, _, _, _, _, _, _, _, _⟩ := c11_ BK_1; obtain ⟨_, _, _, _, _, _, _, _, _, _, _, _, _, _, _, _, _, _, _, _, _, _⟩ := c11_ BK_2) | (go_at_call 33; (with_reducible refine (gafferref03_Same.calls k _ _ l0_6 _ _ l1_6 _ _ ?side1 ?side2 ?side3 ?side4 A_2.out).mono ?_); (case side1 => exact cl_ (Kd.C_below HR_1.out HB.out)); (case side2 => exact HC_1.out); (case side3 => exact cl_ (Kd.C_below HR_3.out HB.out)); (case side4 => exact HC_3.out); rintro e w_3 ⟨rfl, hb⟩; replace BK_1 := bB_ BK_1 hb; replace BK_2 := bB_ BK_2 hb; replace HB := hB_ (bl_2 HB GE_1 GE_2) hb; (try clear hb)))
     go_ret
     exact ⟨fz_, bl_2 HB GE_1 GE_2⟩)
  | (have _ := L1_
     go_wp2_with (first | ((with_reducible refine gd_ 2 ?_); refine bx_ 2 #[.int .u8 a0_0, .int .u64 a0_1, .int .u64 a0_2, .int .u64 a0_3, .int .u64 a0_4, .bool a0_5, .slice A0_6 l0_6.length c0_6, .int .u64 a0_7, .int .u64 a0_8, .slice A0_9 l0_9.length c0_9, .string a0_10] 37 ?_; intro gb_1 hg w_1 hbox hb; have BK_1 := a_ (hbox); have GE_1 := a_ (bs_0 hg HB); replace HB := hB_ (bl_ HB) hb; clear hb hbox hg) | ((with_reducible refine gd_ 3 ?_); refine bx_ 3 #[.int .u8 a1_0, .int .u64 a1_1, .int .u64 a1_2, .int .u64 a1_3, .int .u64 a1_4, .bool a1_5, .slice A1_6 l1_6.length c1_6, .int .u64 a1_7, .int .u64 a1_8, .slice A1_9 l1_9.length c1_9, .string a1_10] 37 ?_; intro gb_2 hg w_2 hbox hb; have BK_2 := a_ (hbox); have GE_2 := a_ (bs_1 hg HB GE_1); replace HB := hB_ (bl_1 HB GE_1) hb; have NB_1 := nB_ hg BK_1; have NB_2 := nC_ hg BK_1; replace BK_1 := bB_ BK_1 hb; clear hb hbox hg; have hnb_1 := NB_1.out; have hnc_1 := NB_2.out; obtain ⟨_, _, _, _, _, _, _, _, _, _, _, _, _, _, _, _, _, _, _, _, _, _⟩ := c11_ BK_1; obtain ⟨_, _, _, _, _, _, _, _, _, _, _, _, _, _, _, _, _, _, _, _, _, _⟩ := c11_ BK_2) | (go_at_call 33; (with_reducible refine (gafferref03_Same.calls k _ _ l0_6 _ _ l1_6 _ _ ?side1 ?side2 ?side3 ?side4 A_2.out).mono ?_); (case side1 => exact cl_ (Kd.C_below HR_1.out HB.out)); (case side2 => exact HC_1.out); (case side3 => exact cl_ (Kd.C_below HR_3.out HB.out)); (case side4 => exact HC_3.out); rintro e w_3 ⟨rfl, hb⟩; replace BK_1 := bB_ BK_1 hb; replace BK_2 := bB_ BK_2 hb; replace HB := hB_ (bl_2 HB GE_1 GE_2) hb; (try clear hb); obtain ⟨_, _, _, _, _, _, _, _, _, _, _, _, _, _, _, _, _, _, _, _, _, _⟩ := c11_ BK_1; obtain ⟨_, _, _, _, _, _, _, _, _, _, _, _, _, _, _, _, _, _, _, _, _, _⟩ := c11_ BK_2) | (go_at_call 34; (with_reducible refine (gafferref05_Same.calls k a0_7 a0_8 _ _ l0_9 a0_10 a1_7 a1_8 _ _ l1_9 a1_10 t_2 _ ?side1 ?side2 ?side3 ?side4 A_4.out).mono ?_); (case side1 => exact cl_ (Kd.C_below HR_2.out HB.out)); (case side2 => exact HC_2.out); (case side3 => exact cl_ (Kd.C_below HR_4.out HB.out)); (case side4 => exact HC_4.out); rintro e w_4 ⟨rfl, hb⟩; replace BK_1 := bB_ BK_1 hb; replace BK_2 := bB_ BK_2 hb; replace HB := hB_ (bl_2 HB GE_1 GE_2) hb; (try clear hb)))
     go_ret
     exact ⟨fz_, bl_2 HB GE_1 GE_2⟩)

def gafferlaw13_lives.f (k : Nat)  : Option (Bool) := (msg_Encode.f k 2 2 0 0 0 true ([] : List (S67)) 0 0 ([] : List Int) (⟨#[]⟩ : ByteArray)).bind fun bt399 => ((pack_Frame.f k (⟨#[1, 2, 1, 2, 1, 1]⟩ : ByteArray)).bind fun bt401 => ((msg_Decode.f k bt399.1).bind fun bt403 => (if bt399.1.size + 1 ≤ 9223372036854775807 then ((msg_Decode.f k (bt399.1 ++ (⟨#[120]⟩ : ByteArray))).bind fun bt420 => (if bt399.1.toList = bt401.1.toList then (if (bt399.1.size : Int) = 12 then (if bt399.2 = 0 then (if bt403.2.2.2.2.2.2.2.2.2.2.2 = 0 then ((gafferref13_Same.f k 2 2 0 0 0 true ([] : List (S67)) 0 0 ([] : List Int) (⟨#[]⟩ : ByteArray) bt403.1 bt403.2.1 bt403.2.2.1 bt403.2.2.2.1 bt403.2.2.2.2.1 bt403.2.2.2.2.2.1 bt403.2.2.2.2.2.2.1 bt403.2.2.2.2.2.2.2.1 bt403.2.2.2.2.2.2.2.2.1 bt403.2.2.2.2.2.2.2.2.2.1 bt403.2.2.2.2.2.2.2.2.2.2.1).bind fun t437 => (if t437 = true then (some (bt420.2.2.2.2.2.2.2.2.2.2.2 == 4)) else (some false))) else (some false)) else (some false)) else (some false)) else (some false))) else (none))))
theorem gafferlaw13_lives.mono : ∀ k, LeO (gafferlaw13_lives.f k ) (gafferlaw13_lives.f (k + 1) ) := by
 intro  k
 unfold gafferlaw13_lives.f
 repeat' with_reducible first | apply gafferref13_Same.mono | apply msg_Decode.mono | apply msg_Encode.mono | apply pack_Frame.mono | apply LeO.refl | apply LeO.none | apply LeO.ite | refine LeO.bind ?_ (fun _ => ?_)
theorem gafferlaw13_lives.only (k : Nat) (r : Bool) (h : gafferlaw13_lives.f k = some r) : r = true := by
 have h1 : gafferlaw13_lives.f (k + 200) = some r := at_rounds (fun k => gafferlaw13_lives.mono k) (Nat.le_add_right _ _) h
 have h2 : gafferlaw13_lives.f (k + 200) = some true := at_rounds (g := fun k => gafferlaw13_lives.f k) (fun k => gafferlaw13_lives.mono k) (Nat.le_add_left 200 k) (show gafferlaw13_lives.f 200 = some true by decide +kernel)
 rw [h1] at h2
 injection h2
theorem gafferlaw13_lives.calls (k : Nat)  (r : Bool) (w : World) (h : gafferlaw13_lives.f k  = some r) :
  Calls Try.prog 17 #[] w fun e w' => e = .returned (.bool r) ∧ Below w.heap.size w w' := by
 have hr : r = true := gafferlaw13_lives.only k r h
 have hu_1 := Try.underlying37
 have HB := a_ (Below.refl w.heap.size w)
 have H := h
 unfold gafferlaw13_lives.f at H
 clear h
 obtain ⟨⟨t_1, t_2⟩, A_1, H⟩ := Option.bind_eq_some_iff.mp H
 try dsimp only at H
 have A_2 := a_ A_1
 clear A_1
 obtain ⟨⟨t_3, t_4⟩, A_3, H⟩ := Option.bind_eq_some_iff.mp H
 try dsimp only at H
 have A_4 := a_ A_3
 clear A_3
 obtain ⟨⟨t_5, t_6, t_7, t_8, t_9, t_10, t_11, t_12, t_13, t_14, t_15, t_16⟩, A_5, H⟩ := Option.bind_eq_some_iff.mp H
 try dsimp only at H
 have A_6 := a_ A_5
 clear A_5
 by_cases c_1 : t_1.size + 1 ≤ 9223372036854775807
 rotate_left
 ·rw [if_neg c_1] at H
  exact absurd H (by simp)
 rw [if_pos c_1] at H
 have c_2 := eq_true c_1
 have c_3 : decide (t_1.size + 1 ≤ 9223372036854775807) = true := decide_eq_true c_1
 try have c_4 : (9223372036854775807 < t_1.size + 1) = False := eq_false (Nat.not_lt.2 c_1)
 clear c_1
 obtain ⟨⟨t_17, t_18, t_19, t_20, t_21, t_22, t_23, t_24, t_25, t_26, t_27, t_28⟩, A_7, H⟩ := Option.bind_eq_some_iff.mp H
 try dsimp only at H
 have A_8 := a_ A_7
 clear A_7
 by_cases c_5 : t_1.toList = t_3.toList
 rotate_left
 ·rw [if_neg c_5] at H
  have c_6 : (t_1.toList == t_3.toList) = false := beq_eq_false_iff_ne.mpr c_5
  have c_7 : (t_1.toList != t_3.toList) = true := bne_iff_ne.mpr c_5
  exact absurd (H.trans (congrArg some hr)) (by simp)
 rw [if_pos c_5] at H
 have c_6 : (t_1.toList == t_3.toList) = true := beq_iff_eq.mpr c_5
 have c_7 : (t_1.toList != t_3.toList) = false := bne_eq_false_iff_eq.mpr c_5
 clear c_5
 by_cases c_8 : (t_1.size : Int) = 12
 rotate_left
 ·rw [if_neg c_8] at H
  have c_9 : ((t_1.size : Int) == 12) = false := beq_eq_false_iff_ne.mpr c_8
  have c_10 : ((t_1.size : Int) != 12) = true := bne_iff_ne.mpr c_8
  exact absurd (H.trans (congrArg some hr)) (by simp)
 rw [if_pos c_8] at H
 have c_9 : ((t_1.size : Int) == 12) = true := beq_iff_eq.mpr c_8
 have c_10 : ((t_1.size : Int) != 12) = false := bne_eq_false_iff_eq.mpr c_8
 clear c_8
 by_cases c_11 : t_2 = 0
 rotate_left
 ·rw [if_neg c_11] at H
  have c_12 : (t_2 == 0) = false := beq_eq_false_iff_ne.mpr c_11
  have c_13 : (t_2 != 0) = true := bne_iff_ne.mpr c_11
  exact absurd (H.trans (congrArg some hr)) (by simp)
 rw [if_pos c_11] at H
 have c_12 : (t_2 == 0) = true := beq_iff_eq.mpr c_11
 have c_13 : (t_2 != 0) = false := bne_eq_false_iff_eq.mpr c_11
 clear c_11
 by_cases c_14 : t_16 = 0
 rotate_left
 ·rw [if_neg c_14] at H
  have c_15 : (t_16 == 0) = false := beq_eq_false_iff_ne.mpr c_14
  have c_16 : (t_16 != 0) = true := bne_iff_ne.mpr c_14
  exact absurd (H.trans (congrArg some hr)) (by simp)
 rw [if_pos c_14] at H
 have c_15 : (t_16 == 0) = true := beq_iff_eq.mpr c_14
 have c_16 : (t_16 != 0) = false := bne_eq_false_iff_eq.mpr c_14
 clear c_14
 obtain ⟨t_29, A_9, H⟩ := Option.bind_eq_some_iff.mp H
 try dsimp only at H
 have A_1 := a_ A_9
 clear A_9
 by_cases c_17 : t_29 = true
 rotate_left
 ·replace c_17 := Bool.eq_false_iff.mpr c_17
  subst c_17
  rw [if_neg (show ¬ (false = true) by decide)] at H
  exact absurd (H.trans (congrArg some hr)) (by simp)
 subst c_17
 rw [if_pos rfl] at H
 obtain rfl := Option.some.inj H
 go_enter Try.func17, Try.ntmps17
 go_wp2_with (first | ((with_reducible refine gd_ 1 ?_); (try (refine gate_guard (by rfl) ?_; dsimp only)); refine bx_ 1 #[.int .u8 0, .int .u64 0, .int .u64 0, .int .u64 0, .int .u64 0, .bool false, .slice none 0 0, .int .u64 0, .int .u64 0, .slice none 0 0, .string (⟨#[]⟩ : ByteArray)] 37 ?_; intro gb_1 hg w_1 hbox hb; have BK_1 := a_ (hbox); have GE_1 := a_ (bs_0 hg HB); replace HB := hB_ (bl_ HB) hb; clear hb hbox hg; obtain ⟨_, _, _, _, _, _, _, _, _, _, _, _, _, _, _, _, _, _, _, _, _, _⟩ := c11_ BK_1) | ((with_reducible refine gk_ 13 ?_); refine gl_ (some 13) Try.func13 #[.agg #[.int .u8 2, .int .u64 2, .int .u64 0, .int .u64 0, .int .u64 0, .bool true, .slice none 0 0, .int .u64 0, .int .u64 0, .slice none 0 0, .string (⟨#[]⟩ : ByteArray)]] ?_; (refine (msg_Encode.calls k 2 2 0 0 0 true _ _ ([] : List (S67)) 0 0 _ _ ([] : List Int) (⟨#[]⟩ : ByteArray) t_1 t_2 _ ?side1 ?side2 ?side3 ?side4 A_2.out).mono ?_); (case side1 => exact Kd.C_nil _ _); (case side2 => exact Nat.le_refl _); (case side3 => exact Kd.C_nil _ _); (case side4 => exact Nat.le_refl _); rintro e w_2 ⟨rfl, hb⟩; (try clear A_2); refine ⟨_, rfl, ?_⟩; replace BK_1 := a_ (blk_below (g := gb_1) (o := .cells #[.int .u8 2, .int .u64 2, .int .u64 0, .int .u64 0, .int .u64 0, .bool true, .slice none 0 0, .int .u64 0, .int .u64 0, .slice none 0 0, .string (⟨#[]⟩ : ByteArray)] 37 (0, 0)) (bp_0 BK_1) hb); replace HB := hB_ (bl_1 HB GE_1) hb; (try clear hb)) | ((with_reducible refine gk_ 11 ?_); refine gl_ (some 17) Try.func11 #[.string (⟨#[1, 2, 1, 2, 1, 1]⟩ : ByteArray)] ?_; (with_reducible refine (pack_Frame.calls k (⟨#[1, 2, 1, 2, 1, 1]⟩ : ByteArray) t_3 t_4 _ A_4.out).mono ?_); rintro e w_3 ⟨rfl, hb⟩; refine ⟨_, rfl, ?_⟩; replace BK_1 := bB_ BK_1 hb; replace HB := hB_ (bl_1 HB GE_1) hb; (try clear hb)) | ((with_reducible refine gk_ 15 ?_); refine gl_ (some 22) Try.func15 #[.string t_1] ?_; (with_reducible refine (msg_Decode.calls k t_1 t_5 t_6 t_7 t_8 t_9 t_10 t_11 t_12 t_13 t_14 t_15 t_16 _ A_6.out).mono ?_); rintro e w_4 ⟨v_1, v_2, rfl, ho_1, ho_2, hb⟩; refine ⟨_, rfl, ?_⟩; have HO_1 := a_ (Kd.S_lower ho_1 (below_size (bl_1 HB GE_1))); have HO_2 := a_ (Kd.R_lower ho_2 (below_size (bl_1 HB GE_1))); replace BK_1 := bB_ BK_1 hb; replace HB := hB_ (bl_1 HB GE_1) hb; (try clear hb); (try clear ho_1); (try clear ho_2)) | ((with_reducible refine gd_ 6 ?_); (try (refine gate_guard (by rfl) ?_; dsimp only)); refine bx_ 6 #[.int .u8 0, .int .u64 0, .int .u64 0, .int .u64 0, .int .u64 0, .bool false, .slice none 0 0, .int .u64 0, .int .u64 0, .slice none 0 0, .string (⟨#[]⟩ : ByteArray)] 37 ?_; intro gb_2 hg w_5 hbox hb; replace HO_1 := a_ (Kd.S_below (by (with_reducible repeat (first | apply Kd.S_alloc | apply Kd.S_drewN | apply Kd.S_drew)); exact HO_1.out) hb); replace HO_2 := a_ (Kd.R_below (by refine rq_ ?_; exact HO_2.out) hb); have BK_2 := a_ (hbox); have GE_2 := a_ (bs_1 hg HB GE_1); replace HB := hB_ (bl_1 HB GE_1) hb; have NB_1 := nB_ hg BK_1; have NB_2 := nC_ hg BK_1; replace BK_1 := bB_ BK_1 hb; clear hb hbox hg; have hnb_1 := NB_2.out; have hnc_1 := NB_1.out; obtain ⟨_, _, _, _, _, _, _, _, _, _, _, _, _, _, _, _, _, _, _, _, _, _⟩ := c11_ BK_2; obtain ⟨Ao_1, co_1, eo_1⟩ := Kd.S_slice HO_1.out; subst eo_1; obtain ⟨Ao_2, co_2, eo_2⟩ := Kd.R_slice HO_2.out; subst eo_2) | ((with_reducible refine gk_ 15 ?_); refine gl_ (some 28) Try.func15 #[.string (t_1 ++ (⟨#[120]⟩ : ByteArray))] ?_; (with_reducible refine (msg_Decode.calls k (t_1 ++ (⟨#[120]⟩ : ByteArray)) t_17 t_18 t_19 t_20 t_21 t_22 t_23 t_24 t_25 t_26 t_27 t_28 _ A_8.out).mono ?_); rintro e w_6 ⟨v_3, v_4, rfl, ho_1, ho_2, hb⟩; refine ⟨_, rfl, ?_⟩; have HO_3 := a_ (Kd.S_lower (Kd.S_new' (Kd.S_new' ho_1 (Kd.S_lt (by (with_reducible repeat (first | apply Kd.S_alloc | apply Kd.S_drewN | apply Kd.S_drew)); exact (Kd.S_mono (Kd.S_far (p := ⟨gb_2, 10, none⟩) (Kd.S_far (p := ⟨gb_2, 9, none⟩) (Kd.S_far (p := ⟨gb_2, 8, none⟩) (Kd.S_far (p := ⟨gb_2, 7, none⟩) (Kd.S_far (p := ⟨gb_2, 6, none⟩) (Kd.S_far (p := ⟨gb_2, 5, none⟩) (Kd.S_far (p := ⟨gb_2, 4, none⟩) (Kd.S_far (p := ⟨gb_2, 3, none⟩) (Kd.S_far (p := ⟨gb_2, 2, none⟩) (Kd.S_far (p := ⟨gb_2, 1, none⟩) (Kd.S_far (p := ⟨gb_2, 0, none⟩) (Kd.S_types HO_1.out BK_2.out (by decide)) (fun _ hk => hk.2) (.int .u8 t_5)) (fun _ hk => hk.2) (.int .u64 t_6)) (fun _ hk => hk.2) (.int .u64 t_7)) (fun _ hk => hk.2) (.int .u64 t_8)) (fun _ hk => hk.2) (.int .u64 t_9)) (fun _ hk => hk.2) (.bool t_10)) (fun _ hk => hk.2) (.slice Ao_1 t_11.length co_1)) (fun _ hk => hk.2) (.int .u64 t_12)) (fun _ hk => hk.2) (.int .u64 t_13)) (fun _ hk => hk.2) (.slice Ao_2 t_14.length co_2)) (fun _ hk => hk.2) (.string t_15)) (fun _ h_ => h_.1))))) (Kd.R_lt (by refine rq_ ?_; exact (Kd.R_mono (Kd.R_far (p := ⟨gb_2, 10, none⟩) (Kd.R_far (p := ⟨gb_2, 9, none⟩) (Kd.R_far (p := ⟨gb_2, 8, none⟩) (Kd.R_far (p := ⟨gb_2, 7, none⟩) (Kd.R_far (p := ⟨gb_2, 6, none⟩) (Kd.R_far (p := ⟨gb_2, 5, none⟩) (Kd.R_far (p := ⟨gb_2, 4, none⟩) (Kd.R_far (p := ⟨gb_2, 3, none⟩) (Kd.R_far (p := ⟨gb_2, 2, none⟩) (Kd.R_far (p := ⟨gb_2, 1, none⟩) (Kd.R_far (p := ⟨gb_2, 0, none⟩) (Kd.R_types HO_2.out BK_2.out (by decide)) (fun _ hk => hk.2) (.int .u8 t_5)) (fun _ hk => hk.2) (.int .u64 t_6)) (fun _ hk => hk.2) (.int .u64 t_7)) (fun _ hk => hk.2) (.int .u64 t_8)) (fun _ hk => hk.2) (.int .u64 t_9)) (fun _ hk => hk.2) (.bool t_10)) (fun _ hk => hk.2) (.slice Ao_1 t_11.length co_1)) (fun _ hk => hk.2) (.int .u64 t_12)) (fun _ hk => hk.2) (.int .u64 t_13)) (fun _ hk => hk.2) (.slice Ao_2 t_14.length co_2)) (fun _ hk => hk.2) (.string t_15)) (fun _ h_ => h_.1))))) (below_size (bl_2 HB GE_1 GE_2))); replace HO_1 := a_ (Kd.S_mono (Kd.S_told (Kd.S_told (Kd.S_old (by (with_reducible repeat (first | apply Kd.S_alloc | apply Kd.S_drewN | apply Kd.S_drew)); exact (Kd.S_mono (Kd.S_far (p := ⟨gb_2, 10, none⟩) (Kd.S_far (p := ⟨gb_2, 9, none⟩) (Kd.S_far (p := ⟨gb_2, 8, none⟩) (Kd.S_far (p := ⟨gb_2, 7, none⟩) (Kd.S_far (p := ⟨gb_2, 6, none⟩) (Kd.S_far (p := ⟨gb_2, 5, none⟩) (Kd.S_far (p := ⟨gb_2, 4, none⟩) (Kd.S_far (p := ⟨gb_2, 3, none⟩) (Kd.S_far (p := ⟨gb_2, 2, none⟩) (Kd.S_far (p := ⟨gb_2, 1, none⟩) (Kd.S_far (p := ⟨gb_2, 0, none⟩) (Kd.S_types HO_1.out BK_2.out (by decide)) (fun _ hk => hk.2) (.int .u8 t_5)) (fun _ hk => hk.2) (.int .u64 t_6)) (fun _ hk => hk.2) (.int .u64 t_7)) (fun _ hk => hk.2) (.int .u64 t_8)) (fun _ hk => hk.2) (.int .u64 t_9)) (fun _ hk => hk.2) (.bool t_10)) (fun _ hk => hk.2) (.slice Ao_1 t_11.length co_1)) (fun _ hk => hk.2) (.int .u64 t_12)) (fun _ hk => hk.2) (.int .u64 t_13)) (fun _ hk => hk.2) (.slice Ao_2 t_14.length co_2)) (fun _ hk => hk.2) (.string t_15)) (fun _ h_ => h_.1))) hb) (Kd.S_base ho_1)) (Kd.R_base ho_2)) (fun _ h_ => h_.1)); have HO_4 := a_ (Kd.R_lower (Kd.R_new' ho_2 (Kd.R_lt (by refine rq_ ?_; exact (Kd.R_mono (Kd.R_far (p := ⟨gb_2, 10, none⟩) (Kd.R_far (p := ⟨gb_2, 9, none⟩) (Kd.R_far (p := ⟨gb_2, 8, none⟩) (Kd.R_far (p := ⟨gb_2, 7, none⟩) (Kd.R_far (p := ⟨gb_2, 6, none⟩) (Kd.R_far (p := ⟨gb_2, 5, none⟩) (Kd.R_far (p := ⟨gb_2, 4, none⟩) (Kd.R_far (p := ⟨gb_2, 3, none⟩) (Kd.R_far (p := ⟨gb_2, 2, none⟩) (Kd.R_far (p := ⟨gb_2, 1, none⟩) (Kd.R_far (p := ⟨gb_2, 0, none⟩) (Kd.R_types HO_2.out BK_2.out (by decide)) (fun _ hk => hk.2) (.int .u8 t_5)) (fun _ hk => hk.2) (.int .u64 t_6)) (fun _ hk => hk.2) (.int .u64 t_7)) (fun _ hk => hk.2) (.int .u64 t_8)) (fun _ hk => hk.2) (.int .u64 t_9)) (fun _ hk => hk.2) (.bool t_10)) (fun _ hk => hk.2) (.slice Ao_1 t_11.length co_1)) (fun _ hk => hk.2) (.int .u64 t_12)) (fun _ hk => hk.2) (.int .u64 t_13)) (fun _ hk => hk.2) (.slice Ao_2 t_14.length co_2)) (fun _ hk => hk.2) (.string t_15)) (fun _ h_ => h_.1))))) (below_size (bl_2 HB GE_1 GE_2))); replace HO_2 := a_ (Kd.R_elder' (by refine rq_ ?_; exact (Kd.R_mono (Kd.R_far (p := ⟨gb_2, 10, none⟩) (Kd.R_far (p := ⟨gb_2, 9, none⟩) (Kd.R_far (p := ⟨gb_2, 8, none⟩) (Kd.R_far (p := ⟨gb_2, 7, none⟩) (Kd.R_far (p := ⟨gb_2, 6, none⟩) (Kd.R_far (p := ⟨gb_2, 5, none⟩) (Kd.R_far (p := ⟨gb_2, 4, none⟩) (Kd.R_far (p := ⟨gb_2, 3, none⟩) (Kd.R_far (p := ⟨gb_2, 2, none⟩) (Kd.R_far (p := ⟨gb_2, 1, none⟩) (Kd.R_far (p := ⟨gb_2, 0, none⟩) (Kd.R_types HO_2.out BK_2.out (by decide)) (fun _ hk => hk.2) (.int .u8 t_5)) (fun _ hk => hk.2) (.int .u64 t_6)) (fun _ hk => hk.2) (.int .u64 t_7)) (fun _ hk => hk.2) (.int .u64 t_8)) (fun _ hk => hk.2) (.int .u64 t_9)) (fun _ hk => hk.2) (.bool t_10)) (fun _ hk => hk.2) (.slice Ao_1 t_11.length co_1)) (fun _ hk => hk.2) (.int .u64 t_12)) (fun _ hk => hk.2) (.int .u64 t_13)) (fun _ hk => hk.2) (.slice Ao_2 t_14.length co_2)) (fun _ hk => hk.2) (.string t_15)) (fun _ h_ => h_.1))) (Kd.R_base ho_2) hb); replace BK_1 := a_ (blk_below (g := gb_1) (o := .cells #[.int .u8 2, .int .u64 2, .int .u64 0, .int .u64 0, .int .u64 0, .bool true, .slice none 0 0, .int .u64 0, .int .u64 0, .slice none 0 0, .string (⟨#[]⟩ : ByteArray)] 37 (0, 0)) (bp_1 BK_1 NB_1) hb); replace BK_2 := a_ (blk_below (g := gb_2) (o := .cells #[.int .u8 t_5, .int .u64 t_6, .int .u64 t_7, .int .u64 t_8, .int .u64 t_9, .bool t_10, .slice Ao_1 t_11.length co_1, .int .u64 t_12, .int .u64 t_13, .slice Ao_2 t_14.length co_2, .string t_15] 37 (0, 0)) (bp_0 BK_2) hb); replace HB := hB_ (bl_2 HB GE_1 GE_2) hb; (try clear hb); (try clear ho_1); (try clear ho_2)) | ((with_reducible refine gd_ 8 ?_); (try (refine gate_guard (by rfl) ?_; dsimp only)); refine bx_ 8 #[.int .u8 0, .int .u64 0, .int .u64 0, .int .u64 0, .int .u64 0, .bool false, .slice none 0 0, .int .u64 0, .int .u64 0, .slice none 0 0, .string (⟨#[]⟩ : ByteArray)] 37 ?_; intro gb_3 hg w_7 hbox hb; replace HO_1 := a_ (Kd.S_below (by (with_reducible repeat (first | apply Kd.S_alloc | apply Kd.S_drewN | apply Kd.S_drew)); exact HO_1.out) hb); replace HO_2 := a_ (Kd.R_below (by refine rq_ ?_; exact HO_2.out) hb); replace HO_3 := a_ (Kd.S_below (by (with_reducible repeat (first | apply Kd.S_alloc | apply Kd.S_drewN | apply Kd.S_drew)); exact HO_3.out) hb); replace HO_4 := a_ (Kd.R_below (by refine rq_ ?_; exact HO_4.out) hb); have BK_3 := a_ (hbox); have GE_3 := a_ (bs_2 hg HB GE_1 GE_2); replace HB := hB_ (bl_2 HB GE_1 GE_2) hb; have NB_3 := nB_ hg BK_1; have NB_4 := nC_ hg BK_1; replace BK_1 := bB_ BK_1 hb; have NB_5 := nB_ hg BK_2; have NB_6 := nC_ hg BK_2; replace BK_2 := bB_ BK_2 hb; clear hb hbox hg; have hnb_2 := NB_4.out; have hnc_2 := NB_3.out; have hnb_3 := NB_6.out; have hnc_3 := NB_5.out; obtain ⟨_, _, _, _, _, _, _, _, _, _, _, _, _, _, _, _, _, _, _, _, _, _⟩ := c11_ BK_3; obtain ⟨Ao_3, co_3, eo_3⟩ := Kd.S_slice HO_3.out; subst eo_3; obtain ⟨Ao_4, co_4, eo_4⟩ := Kd.R_slice HO_4.out; subst eo_4; obtain ⟨_, _, _, _, _, _, _, _, _, _, _, _, _, _, _, _, _, _, _, _, _, _⟩ := c11_ BK_1; obtain ⟨_, _, _, _, _, _, _, _, _, _, _, _, _, _, _, _, _, _, _, _, _, _⟩ := c11_ BK_2) | (go_at_call 18; (refine (gafferref13_Same.calls k 2 2 0 0 0 true _ _ ([] : List (S67)) 0 0 _ _ ([] : List Int) (⟨#[]⟩ : ByteArray) t_5 t_6 t_7 t_8 t_9 t_10 _ _ t_11 t_12 t_13 _ _ t_14 t_15 true _ ?side1 ?side2 ?side3 ?side4 ?side5 ?side6 ?side7 ?side8 A_1.out).mono ?_); (case side1 => exact Kd.C_nil _ _); (case side2 => exact Nat.le_refl _); (case side3 => exact Kd.C_nil _ _); (case side4 => exact Nat.le_refl _); (case side5 => refine (Kd.S_reads' (e := 67) (base := w.heap.size) (ok := fun k_ => ((some k_ ≠ (.slice Ao_2 t_14.length co_2 : Value).ownBlock ∧ some k_ ≠ (.slice Ao_3 t_23.length co_3 : Value).ownBlock) ∧ some k_ ≠ (.slice Ao_4 t_26.length co_4 : Value).ownBlock)) (n := t_11.length) (c := co_1) ?_).2.2; exact (by (with_reducible repeat (first | apply Kd.S_alloc | apply Kd.S_drewN | apply Kd.S_drew)); exact (Kd.S_mono (Kd.S_far (p := ⟨gb_3, 10, none⟩) (Kd.S_far (p := ⟨gb_3, 9, none⟩) (Kd.S_far (p := ⟨gb_3, 8, none⟩) (Kd.S_far (p := ⟨gb_3, 7, none⟩) (Kd.S_far (p := ⟨gb_3, 6, none⟩) (Kd.S_far (p := ⟨gb_3, 5, none⟩) (Kd.S_far (p := ⟨gb_3, 4, none⟩) (Kd.S_far (p := ⟨gb_3, 3, none⟩) (Kd.S_far (p := ⟨gb_3, 2, none⟩) (Kd.S_far (p := ⟨gb_3, 1, none⟩) (Kd.S_far (p := ⟨gb_3, 0, none⟩) (Kd.S_types HO_1.out BK_3.out (by decide)) (fun _ hk => hk.2) (.int .u8 t_17)) (fun _ hk => hk.2) (.int .u64 t_18)) (fun _ hk => hk.2) (.int .u64 t_19)) (fun _ hk => hk.2) (.int .u64 t_20)) (fun _ hk => hk.2) (.int .u64 t_21)) (fun _ hk => hk.2) (.bool t_22)) (fun _ hk => hk.2) (.slice Ao_3 t_23.length co_3)) (fun _ hk => hk.2) (.int .u64 t_24)) (fun _ hk => hk.2) (.int .u64 t_25)) (fun _ hk => hk.2) (.slice Ao_4 t_26.length co_4)) (fun _ hk => hk.2) (.string t_27)) (fun _ h_ => h_.1)))); (case side6 => exact (Kd.S_reads' HO_1.out).2.1); (case side7 => refine (Kd.R_reads' (e := 3) (base := w.heap.size) (ok := fun k_ => (True ∧ some k_ ≠ (.slice Ao_4 t_26.length co_4 : Value).ownBlock)) (n := t_14.length) (c := co_2) ?_).2.2; exact (by refine rq_ ?_; exact (Kd.R_mono (Kd.R_far (p := ⟨gb_3, 10, none⟩) (Kd.R_far (p := ⟨gb_3, 9, none⟩) (Kd.R_far (p := ⟨gb_3, 8, none⟩) (Kd.R_far (p := ⟨gb_3, 7, none⟩) (Kd.R_far (p := ⟨gb_3, 6, none⟩) (Kd.R_far (p := ⟨gb_3, 5, none⟩) (Kd.R_far (p := ⟨gb_3, 4, none⟩) (Kd.R_far (p := ⟨gb_3, 3, none⟩) (Kd.R_far (p := ⟨gb_3, 2, none⟩) (Kd.R_far (p := ⟨gb_3, 1, none⟩) (Kd.R_far (p := ⟨gb_3, 0, none⟩) (Kd.R_types HO_2.out BK_3.out (by decide)) (fun _ hk => hk.2) (.int .u8 t_17)) (fun _ hk => hk.2) (.int .u64 t_18)) (fun _ hk => hk.2) (.int .u64 t_19)) (fun _ hk => hk.2) (.int .u64 t_20)) (fun _ hk => hk.2) (.int .u64 t_21)) (fun _ hk => hk.2) (.bool t_22)) (fun _ hk => hk.2) (.slice Ao_3 t_23.length co_3)) (fun _ hk => hk.2) (.int .u64 t_24)) (fun _ hk => hk.2) (.int .u64 t_25)) (fun _ hk => hk.2) (.slice Ao_4 t_26.length co_4)) (fun _ hk => hk.2) (.string t_27)) (fun _ h_ => h_.1)))); (case side8 => exact (Kd.R_reads' HO_2.out).2.1); rintro e w_8 ⟨rfl, hb⟩; (try clear A_1); replace HO_1 := a_ (Kd.S_below (by (with_reducible repeat (first | apply Kd.S_alloc | apply Kd.S_drewN | apply Kd.S_drew)); exact (Kd.S_mono (Kd.S_far (p := ⟨gb_3, 10, none⟩) (Kd.S_far (p := ⟨gb_3, 9, none⟩) (Kd.S_far (p := ⟨gb_3, 8, none⟩) (Kd.S_far (p := ⟨gb_3, 7, none⟩) (Kd.S_far (p := ⟨gb_3, 6, none⟩) (Kd.S_far (p := ⟨gb_3, 5, none⟩) (Kd.S_far (p := ⟨gb_3, 4, none⟩) (Kd.S_far (p := ⟨gb_3, 3, none⟩) (Kd.S_far (p := ⟨gb_3, 2, none⟩) (Kd.S_far (p := ⟨gb_3, 1, none⟩) (Kd.S_far (p := ⟨gb_3, 0, none⟩) (Kd.S_types HO_1.out BK_3.out (by decide)) (fun _ hk => hk.2) (.int .u8 t_17)) (fun _ hk => hk.2) (.int .u64 t_18)) (fun _ hk => hk.2) (.int .u64 t_19)) (fun _ hk => hk.2) (.int .u64 t_20)) (fun _ hk => hk.2) (.int .u64 t_21)) (fun _ hk => hk.2) (.bool t_22)) (fun _ hk => hk.2) (.slice Ao_3 t_23.length co_3)) (fun _ hk => hk.2) (.int .u64 t_24)) (fun _ hk => hk.2) (.int .u64 t_25)) (fun _ hk => hk.2) (.slice Ao_4 t_26.length co_4)) (fun _ hk => hk.2) (.string t_27)) (fun _ h_ => h_.1))) hb); replace HO_2 := a_ (Kd.R_below (by refine rq_ ?_; exact (Kd.R_mono (Kd.R_far (p := ⟨gb_3, 10, none⟩) (Kd.R_far (p := ⟨gb_3, 9, none⟩) (Kd.R_far (p := ⟨gb_3, 8, none⟩) (Kd.R_far (p := ⟨gb_3, 7, none⟩) (Kd.R_far (p := ⟨gb_3, 6, none⟩) (Kd.R_far (p := ⟨gb_3, 5, none⟩) (Kd.R_far (p := ⟨gb_3, 4, none⟩) (Kd.R_far (p := ⟨gb_3, 3, none⟩) (Kd.R_far (p := ⟨gb_3, 2, none⟩) (Kd.R_far (p := ⟨gb_3, 1, none⟩) (Kd.R_far (p := ⟨gb_3, 0, none⟩) (Kd.R_types HO_2.out BK_3.out (by decide)) (fun _ hk => hk.2) (.int .u8 t_17)) (fun _ hk => hk.2) (.int .u64 t_18)) (fun _ hk => hk.2) (.int .u64 t_19)) (fun _ hk => hk.2) (.int .u64 t_20)) (fun _ hk => hk.2) (.int .u64 t_21)) (fun _ hk => hk.2) (.bool t_22)) (fun _ hk => hk.2) (.slice Ao_3 t_23.length co_3)) (fun _ hk => hk.2) (.int .u64 t_24)) (fun _ hk => hk.2) (.int .u64 t_25)) (fun _ hk => hk.2) (.slice Ao_4 t_26.length co_4)) (fun _ hk => hk.2) (.string t_27)) (fun _ h_ => h_.1))) hb); replace HO_3 := a_ (Kd.S_below (by (with_reducible repeat (first | apply Kd.S_alloc | apply Kd.S_drewN | apply Kd.S_drew)); exact (Kd.S_mono (Kd.S_far (p := ⟨gb_3, 10, none⟩) (Kd.S_far (p := ⟨gb_3, 9, none⟩) (Kd.S_far (p := ⟨gb_3, 8, none⟩) (Kd.S_far (p := ⟨gb_3, 7, none⟩) (Kd.S_far (p := ⟨gb_3, 6, none⟩) (Kd.S_far (p := ⟨gb_3, 5, none⟩) (Kd.S_far (p := ⟨gb_3, 4, none⟩) (Kd.S_far (p := ⟨gb_3, 3, none⟩) (Kd.S_far (p := ⟨gb_3, 2, none⟩) (Kd.S_far (p := ⟨gb_3, 1, none⟩) (Kd.S_far (p := ⟨gb_3, 0, none⟩) (Kd.S_types HO_3.out BK_3.out (by decide)) (fun _ hk => hk.2) (.int .u8 t_17)) (fun _ hk => hk.2) (.int .u64 t_18)) (fun _ hk => hk.2) (.int .u64 t_19)) (fun _ hk => hk.2) (.int .u64 t_20)) (fun _ hk => hk.2) (.int .u64 t_21)) (fun _ hk => hk.2) (.bool t_22)) (fun _ hk => hk.2) (.slice Ao_3 t_23.length co_3)) (fun _ hk => hk.2) (.int .u64 t_24)) (fun _ hk => hk.2) (.int .u64 t_25)) (fun _ hk => hk.2) (.slice Ao_4 t_26.length co_4)) (fun _ hk => hk.2) (.string t_27)) (fun _ h_ => h_.1))) hb); replace HO_4 := a_ (Kd.R_below (by refine rq_ ?_; exact (Kd.R_mono (Kd.R_far (p := ⟨gb_3, 10, none⟩) (Kd.R_far (p := ⟨gb_3, 9, none⟩) (Kd.R_far (p := ⟨gb_3, 8, none⟩) (Kd.R_far (p := ⟨gb_3, 7, none⟩) (Kd.R_far (p := ⟨gb_3, 6, none⟩) (Kd.R_far (p := ⟨gb_3, 5, none⟩) (Kd.R_far (p := ⟨gb_3, 4, none⟩) (Kd.R_far (p := ⟨gb_3, 3, none⟩) (Kd.R_far (p := ⟨gb_3, 2, none⟩) (Kd.R_far (p := ⟨gb_3, 1, none⟩) (Kd.R_far (p := ⟨gb_3, 0, none⟩) (Kd.R_types HO_4.out BK_3.out (by decide)) (fun _ hk => hk.2) (.int .u8 t_17)) (fun _ hk => hk.2) (.int .u64 t_18)) (fun _ hk => hk.2) (.int .u64 t_19)) (fun _ hk => hk.2) (.int .u64 t_20)) (fun _ hk => hk.2) (.int .u64 t_21)) (fun _ hk => hk.2) (.bool t_22)) (fun _ hk => hk.2) (.slice Ao_3 t_23.length co_3)) (fun _ hk => hk.2) (.int .u64 t_24)) (fun _ hk => hk.2) (.int .u64 t_25)) (fun _ hk => hk.2) (.slice Ao_4 t_26.length co_4)) (fun _ hk => hk.2) (.string t_27)) (fun _ h_ => h_.1))) hb); replace BK_1 := a_ (blk_below (g := gb_1) (o := .cells #[.int .u8 2, .int .u64 2, .int .u64 0, .int .u64 0, .int .u64 0, .bool true, .slice none 0 0, .int .u64 0, .int .u64 0, .slice none 0 0, .string (⟨#[]⟩ : ByteArray)] 37 (0, 0)) (bp_1 BK_1 NB_3) hb); replace BK_2 := a_ (blk_below (g := gb_2) (o := .cells #[.int .u8 t_5, .int .u64 t_6, .int .u64 t_7, .int .u64 t_8, .int .u64 t_9, .bool t_10, .slice Ao_1 t_11.length co_1, .int .u64 t_12, .int .u64 t_13, .slice Ao_2 t_14.length co_2, .string t_15] 37 (0, 0)) (bp_1 BK_2 NB_5) hb); replace BK_3 := a_ (blk_below (g := gb_3) (o := .cells #[.int .u8 t_17, .int .u64 t_18, .int .u64 t_19, .int .u64 t_20, .int .u64 t_21, .bool t_22, .slice Ao_3 t_23.length co_3, .int .u64 t_24, .int .u64 t_25, .slice Ao_4 t_26.length co_4, .string t_27] 37 (0, 0)) (bp_0 BK_3) hb); replace HB := hB_ (bl_3 HB GE_1 GE_2 GE_3) hb; (try clear hb)))
 go_ret
 exact ⟨fz_, bl_3 HB GE_1 GE_2 GE_3⟩

end Go.Proofs.Ytcdibodjkdoknaa.PM
