-- By a program of this session.
import Derived.Test.YtcdibodjkdoknaaPMx0
import Derived.Test.YtcdibodjkdoknaaPMx6
import Derived.Test.YtcdibodjkdoknaaPMx7
namespace Go.Proofs.Ytcdibodjkdoknaa.PM
open Go.RowKit YtcdibodjkdoknaaW.PrintWords YtcdibodjkdoknaaW.PrintLast YtcdibodjkdoknaaW.PrintMore Sh Ytcdibodjkdoknaa.Op
attribute [local go_sem] max2_int min2_int max_two min_two max_three min_three max_four min_four
set_option linter.unusedVariables false
set_option maxHeartbeats 80000000
set_option maxRecDepth 100000
set_option linter.unusedSimpArgs false

def gafferref13_Check.b (q t i lt c : Int) (ok : Bool) (n : Int) : Bool := ((((decide (q > 0) && (decide (q < 6) && decide (t > 0))) && (q == 1 || (q == 3 || (q == 4 || i == 0)))) && (q == 1 || (q == 3 || lt == 0))) && (q == 3 || (c == 0 && n == 0))) && (q == 2 || (q == 4 || !ok))
def gafferref13_Check.l0 : Nat → Bool → List (S67) → Int → Int → Option (Int)
 | 0, _, _, _, _ => none
 | k + 1, b, l, j, i => if j < (l.length : Int) then (if 0 ≤ j then (if b = true then ((gafferref03_Check.f k ((rd_T67 l j).f0) ((rd_T67 l j).f1) ((rd_T67 l j).f2) ((rd_T67 l j).f3) ((rd_T67 l j).f4)).bind fun t => gafferref13_Check.l0 k (t == 0 && ((IntKind.u64.wrap ((IntKind.u64.wrap (((rd_T67 l j).f0) - (IntKind.u64.wrap (j)))) - 1)) == i && decide (((rd_T67 l j).f0) > i))) l (wrap64 (j + 1)) i) else gafferref13_Check.l0 k false l (wrap64 (j + 1)) i) else none) else (if b = true then some 0 else some 4)
def gafferref13_Check.s (k : Nat) (b : Bool) (q si st : Int) (ms : List Int) (d : ByteArray) : Option Bool := if b = true then (if q = 5 then some true else gafferref05_Same.f k si st ms d 0 0 ([] : List Int) (⟨#[]⟩ : ByteArray)) else some false
def gafferref13_Check.c (k : Nat) (b : Bool) (q si st : Int) (ms : List Int) (d : ByteArray) : Option Bool := if b = true then (if q = 5 then (gafferref05_Check.f k si st ms d).bind fun t => some (t == 0 && decide (si > 0)) else some true) else some false
def gafferref13_Check.f (k : Nat) (a0_0 : Int) (a0_1 : Int) (a0_2 : Int) (a0_3 : Int) (a0_4 : Int) (a0_5 : Bool) (l0_6 : List (S67)) (a0_7 : Int) (a0_8 : Int) (l0_9 : List Int) (a0_10 : ByteArray) : Option (Int) := (gafferref13_Check.s k (gafferref13_Check.b a0_0 a0_1 a0_2 a0_3 a0_4 a0_5 (l0_6.length : Int)) a0_0 a0_7 a0_8 l0_9 a0_10).bind fun s => (gafferref13_Check.c k s a0_0 a0_7 a0_8 l0_9 a0_10).bind fun c => gafferref13_Check.l0 k (c && decide ((l0_6.length : Int) ≤ 8)) l0_6 0 a0_2
theorem gafferref13_Check.mono_l : ∀ k y0 y1 y2 y3, LeO (gafferref13_Check.l0 k y0 y1 y2 y3) (gafferref13_Check.l0 (k + 1) y0 y1 y2 y3)
 | 0 => fun _ _ _ _ r h => by simp [gafferref13_Check.l0] at h
 | k + 1 => by
  have ih := gafferref13_Check.mono_l k
  intro y0 y1 y2 y3
  unfold gafferref13_Check.l0
  repeat' with_reducible first | exact ih _ _ _ _ | exact LeO.refl _ | apply gafferref03_Check.mono | refine LeO.ite ?_ ?_ | refine LeO.bind ?_ ?_ | intro _
theorem gafferref13_Check.mono : ∀ a0 a1 a2 a3 a4 a5 a6 a7 a8 a9 a10 k, LeO (gafferref13_Check.f k a0 a1 a2 a3 a4 a5 a6 a7 a8 a9 a10) (gafferref13_Check.f (k + 1) a0 a1 a2 a3 a4 a5 a6 a7 a8 a9 a10) := by
 intro a0 a1 a2 a3 a4 a5 a6 a7 a8 a9 a10 k
 unfold gafferref13_Check.f gafferref13_Check.s gafferref13_Check.c
 repeat' with_reducible first | exact gafferref13_Check.mono_l _ _ _ _ _ | exact LeO.refl _ | apply gafferref05_Same.mono | apply gafferref05_Check.mono | refine LeO.ite ?_ ?_ | refine LeO.bind ?_ ?_ | intro _
set_option maxHeartbeats 80000000 in
set_option maxRecDepth 100000 in
theorem gafferref13_Check.calls (k : Nat) (a0_0 : Int) (a0_1 : Int) (a0_2 : Int) (a0_3 : Int) (a0_4 : Int) (a0_5 : Bool) (A0_6 : Option Addr) (c0_6 : Nat) (l0_6 : List (S67)) (a0_7 : Int) (a0_8 : Int) (A0_9 : Option Addr) (c0_9 : Nat) (l0_9 : List Int) (a0_10 : ByteArray) (r : Int) (w : World) (hr0_6 : Kd.C k67 w A0_6 l0_6.length l0_6) (hc0_6 : l0_6.length ≤ c0_6) (hr0_9 : Kd.C (Kd.int .i64) w A0_9 l0_9.length l0_9) (hc0_9 : l0_9.length ≤ c0_9) (h : gafferref13_Check.f k a0_0 a0_1 a0_2 a0_3 a0_4 a0_5 l0_6 a0_7 a0_8 l0_9 a0_10 = some r) :
  Calls Try.prog 20 #[.agg #[.int .u8 a0_0, .int .u64 a0_1, .int .u64 a0_2, .int .u64 a0_3, .int .u64 a0_4, .bool a0_5, .slice A0_6 l0_6.length c0_6, .int .u64 a0_7, .int .u64 a0_8, .slice A0_9 l0_9.length c0_9, .string a0_10]] w fun e w' => e = .returned (.int .i64 r) ∧ Below w.heap.size w w' := by
 have hu37 := Try.underlying37
 have hu35 := Try.underlying35
 have hu67 := Try.underlying67
 have HR6 := a_ hr0_6
 have HC6 := a_ hc0_6
 clear hr0_6 hc0_6
 have HR9 := a_ hr0_9
 have HC9 := a_ hc0_9
 clear hr0_9 hc0_9
 have HB := a_ (Below.refl w.heap.size w)
 obtain ⟨s, AS0, h⟩ := Option.bind_eq_some_iff.mp h
 obtain ⟨c, AC0, h⟩ := Option.bind_eq_some_iff.mp h
 try dsimp only at h
 try dsimp only at AC0
 have AS := a_ AS0
 have AC := a_ AC0
 have HH := a_ h
 clear AS0 AC0 h
 go_enter Try.func20, Try.ntmps20
 go_upto_region 2 with (first | ((with_reducible refine gd_ 1 ?_); (try (refine gate_guard (by rfl) ?_; dsimp only)); refine bx_ 1 #[.int .u8 a0_0, .int .u64 a0_1, .int .u64 a0_2, .int .u64 a0_3, .int .u64 a0_4, .bool a0_5, .slice A0_6 l0_6.length c0_6, .int .u64 a0_7, .int .u64 a0_8, .slice A0_9 l0_9.length c0_9, .string a0_10] 37 ?_; intro gb hg w3 hbox hb; have BK := a_ (hbox); have GE := a_ (bs_0 hg HB); replace HB := hB_ (bl_ HB) hb; clear hb hbox hg; obtain ⟨hc4_0, hc4_1, hc4_2, hc4_3, hc4_4, hc4_5, hc4_6, hc4_7, hc4_8, hc4_9, hc4_10, hf4_0, hf4_1, hf4_2, hf4_3, hf4_4, hf4_5, hf4_6, hf4_7, hf4_8, hf4_9, hf4_10⟩ := c11_ BK))
 (try simp only [Act.put, List.setIfInBounds_toArray, List.set_cons_zero, List.set_cons_succ])
 go_cut [4] (fun v4 wc => ∃ x1 : Bool, v4 = .bool x1 ∧ Aside0 (x1 = (decide (a0_0 > 0) && (decide (a0_0 < 6) && decide (a0_1 > 0)))) ∧ Aside0 (wc.heap[gb]? = some (.cells #[.int .u8 a0_0, .int .u64 a0_1, .int .u64 a0_2, .int .u64 a0_3, .int .u64 a0_4, .bool a0_5, .slice A0_6 l0_6.length c0_6, .int .u64 a0_7, .int .u64 a0_8, .slice A0_9 l0_9.length c0_9, .string a0_10] 37 (0, 0))) ∧ Aside0 (Below w.heap.size w wc))
 case first => as_aux_lemma =>
  by_cases c5 : a0_0 > 0
  · have c5b0 : decide (0 < a0_0) = true := decide_eq_true c5
    have c5c : decide (a0_0 > 0) = true := c5b0
    first | rw [c5b0] | (simp only [i64_w, i32_w]; rw [c5b0]) | skip
    by_cases c6 : a0_0 < 6
    · have c6b0 : decide (a0_0 < 6) = true := decide_eq_true c6
      obtain ⟨hc5_0, hc5_1, hc5_2, hc5_3, hc5_4, hc5_5, hc5_6, hc5_7, hc5_8, hc5_9, hc5_10, hf5_0, hf5_1, hf5_2, hf5_3, hf5_4, hf5_5, hf5_6, hf5_7, hf5_8, hf5_9, hf5_10⟩ := c11_ BK
      go_wp2
      go_meet
      case rel => exact ⟨_, fz_, ⟨by rw [c5c, c6b0, Bool.true_and, Bool.true_and]⟩, ⟨bk_ BK⟩, ⟨bl_1 HB GE⟩⟩
    · have c6b0 : decide (a0_0 < 6) = false := decide_eq_false c6
      go_wp2
      go_meet
      case rel => exact ⟨_, fz_, ⟨by rw [c5c, c6b0, Bool.true_and, Bool.false_and]⟩, ⟨bk_ BK⟩, ⟨bl_1 HB GE⟩⟩
  · have c5b0 : decide (0 < a0_0) = false := decide_eq_false c5
    have c5c : decide (a0_0 > 0) = false := c5b0
    first | rw [c5b0] | (simp only [i64_w, i32_w]; rw [c5b0]) | skip
    go_wp2
    go_meet
    case rel => exact ⟨_, fz_, ⟨by rw [c5c, Bool.false_and]⟩, ⟨bk_ BK⟩, ⟨bl_1 HB GE⟩⟩
 case rest =>
 obtain ⟨x1, rfl, E1, BK, HB⟩ := hcut
 go_upto_region 3 with (fail)
 go_cut [4] (fun v4 wc => ∃ x2 : Bool, v4 = .bool x2 ∧ Aside0 (x2 = (x1 && (a0_0 == 1 || (a0_0 == 3 || (a0_0 == 4 || (a0_2 == 0)))))) ∧ Aside0 (wc.heap[gb]? = some (.cells #[.int .u8 a0_0, .int .u64 a0_1, .int .u64 a0_2, .int .u64 a0_3, .int .u64 a0_4, .bool a0_5, .slice A0_6 l0_6.length c0_6, .int .u64 a0_7, .int .u64 a0_8, .slice A0_9 l0_9.length c0_9, .string a0_10] 37 (0, 0))) ∧ Aside0 (Below w.heap.size w wc))
 case first =>
  cases x1
  · clear E1
    go_wp2
    go_meet
    case rel => exact ⟨_, fz_, ⟨by simp []⟩, ⟨bk_ BK⟩, ⟨bl_1 HB GE⟩⟩
  · clear E1
    by_cases d1 : a0_0 = 1
    · have d1a : (a0_0 == 1) = true := beq_iff_eq.mpr d1
      have d1b : (a0_0 != 1) = false := bne_eq_false_iff_eq.mpr d1
      clear d1
      first | rw [d1a] | (simp only [i64_w, i32_w]; rw [d1a]) | skip
      go_wp2
      go_meet
      case rel => exact ⟨_, fz_, ⟨by simp [d1a]⟩, ⟨bk_ BK⟩, ⟨bl_1 HB GE⟩⟩
    have d1a : (a0_0 == 1) = false := beq_eq_false_iff_ne.mpr d1
    have d1b : (a0_0 != 1) = true := bne_iff_ne.mpr d1
    clear d1
    first | rw [d1a] | (simp only [i64_w, i32_w]; rw [d1a]) | skip
    by_cases d3 : a0_0 = 3
    · have d3a : (a0_0 == 3) = true := beq_iff_eq.mpr d3
      have d3b : (a0_0 != 3) = false := bne_eq_false_iff_eq.mpr d3
      clear d3
      go_wp2
      go_meet
      case rel => exact ⟨_, fz_, ⟨by simp [d1a, d3a]⟩, ⟨bk_ BK⟩, ⟨bl_1 HB GE⟩⟩
    have d3a : (a0_0 == 3) = false := beq_eq_false_iff_ne.mpr d3
    have d3b : (a0_0 != 3) = true := bne_iff_ne.mpr d3
    clear d3
    by_cases d4 : a0_0 = 4
    · have d4a : (a0_0 == 4) = true := beq_iff_eq.mpr d4
      have d4b : (a0_0 != 4) = false := bne_eq_false_iff_eq.mpr d4
      clear d4
      go_wp2
      go_meet
      case rel => exact ⟨_, fz_, ⟨by simp [d1a, d3a, d4a]⟩, ⟨bk_ BK⟩, ⟨bl_1 HB GE⟩⟩
    have d4a : (a0_0 == 4) = false := beq_eq_false_iff_ne.mpr d4
    have d4b : (a0_0 != 4) = true := bne_iff_ne.mpr d4
    clear d4
    obtain ⟨hc7_0, hc7_1, hc7_2, hc7_3, hc7_4, hc7_5, hc7_6, hc7_7, hc7_8, hc7_9, hc7_10, hf7_0, hf7_1, hf7_2, hf7_3, hf7_4, hf7_5, hf7_6, hf7_7, hf7_8, hf7_9, hf7_10⟩ := c11_ BK
    go_wp2
    go_meet
    case rel => exact ⟨_, fz_, ⟨by simp [d1a, d3a, d4a]⟩, ⟨bk_ BK⟩, ⟨bl_1 HB GE⟩⟩
 case rest =>
 obtain ⟨x2, rfl, E2, BK, HB⟩ := hcut
 go_upto_region 4 with (fail)
 go_cut [4] (fun v4 wc => ∃ x3 : Bool, v4 = .bool x3 ∧ Aside0 (x3 = (x2 && (a0_0 == 1 || (a0_0 == 3 || (a0_3 == 0))))) ∧ Aside0 (wc.heap[gb]? = some (.cells #[.int .u8 a0_0, .int .u64 a0_1, .int .u64 a0_2, .int .u64 a0_3, .int .u64 a0_4, .bool a0_5, .slice A0_6 l0_6.length c0_6, .int .u64 a0_7, .int .u64 a0_8, .slice A0_9 l0_9.length c0_9, .string a0_10] 37 (0, 0))) ∧ Aside0 (Below w.heap.size w wc))
 case first =>
  cases x2
  · clear E2
    go_wp2
    go_meet
    case rel => exact ⟨_, fz_, ⟨by simp []⟩, ⟨bk_ BK⟩, ⟨bl_1 HB GE⟩⟩
  · clear E2
    by_cases d1 : a0_0 = 1
    · have d1a : (a0_0 == 1) = true := beq_iff_eq.mpr d1
      have d1b : (a0_0 != 1) = false := bne_eq_false_iff_eq.mpr d1
      clear d1
      first | rw [d1a] | (simp only [i64_w, i32_w]; rw [d1a]) | skip
      go_wp2
      go_meet
      case rel => exact ⟨_, fz_, ⟨by simp [d1a]⟩, ⟨bk_ BK⟩, ⟨bl_1 HB GE⟩⟩
    have d1a : (a0_0 == 1) = false := beq_eq_false_iff_ne.mpr d1
    have d1b : (a0_0 != 1) = true := bne_iff_ne.mpr d1
    clear d1
    first | rw [d1a] | (simp only [i64_w, i32_w]; rw [d1a]) | skip
    by_cases d3 : a0_0 = 3
    · have d3a : (a0_0 == 3) = true := beq_iff_eq.mpr d3
      have d3b : (a0_0 != 3) = false := bne_eq_false_iff_eq.mpr d3
      clear d3
      go_wp2
      go_meet
      case rel => exact ⟨_, fz_, ⟨by simp [d1a, d3a]⟩, ⟨bk_ BK⟩, ⟨bl_1 HB GE⟩⟩
    have d3a : (a0_0 == 3) = false := beq_eq_false_iff_ne.mpr d3
    have d3b : (a0_0 != 3) = true := bne_iff_ne.mpr d3
    clear d3
    obtain ⟨hc8_0, hc8_1, hc8_2, hc8_3, hc8_4, hc8_5, hc8_6, hc8_7, hc8_8, hc8_9, hc8_10, hf8_0, hf8_1, hf8_2, hf8_3, hf8_4, hf8_5, hf8_6, hf8_7, hf8_8, hf8_9, hf8_10⟩ := c11_ BK
    go_wp2
    go_meet
    case rel => exact ⟨_, fz_, ⟨by simp [d1a, d3a]⟩, ⟨bk_ BK⟩, ⟨bl_1 HB GE⟩⟩
 case rest =>
 obtain ⟨x3, rfl, E3, BK, HB⟩ := hcut
 go_upto_region 5 with (fail)
 go_cut [4] (fun v4 wc => ∃ x4 : Bool, v4 = .bool x4 ∧ Aside0 (x4 = (x3 && (a0_0 == 3 || ((a0_4 == 0 && (l0_6.length : Int) == 0))))) ∧ Aside0 (wc.heap[gb]? = some (.cells #[.int .u8 a0_0, .int .u64 a0_1, .int .u64 a0_2, .int .u64 a0_3, .int .u64 a0_4, .bool a0_5, .slice A0_6 l0_6.length c0_6, .int .u64 a0_7, .int .u64 a0_8, .slice A0_9 l0_9.length c0_9, .string a0_10] 37 (0, 0))) ∧ Aside0 (Below w.heap.size w wc))
 case first =>
  cases x3
  · clear E3
    go_wp2
    go_meet
    case rel => exact ⟨_, fz_, ⟨by simp []⟩, ⟨bk_ BK⟩, ⟨bl_1 HB GE⟩⟩
  · clear E3
    by_cases d3 : a0_0 = 3
    · have d3a : (a0_0 == 3) = true := beq_iff_eq.mpr d3
      have d3b : (a0_0 != 3) = false := bne_eq_false_iff_eq.mpr d3
      clear d3
      first | rw [d3a] | (simp only [i64_w, i32_w]; rw [d3a]) | skip
      go_wp2
      go_meet
      case rel => exact ⟨_, fz_, ⟨by simp [d3a]⟩, ⟨bk_ BK⟩, ⟨bl_1 HB GE⟩⟩
    have d3a : (a0_0 == 3) = false := beq_eq_false_iff_ne.mpr d3
    have d3b : (a0_0 != 3) = true := bne_iff_ne.mpr d3
    clear d3
    first | rw [d3a] | (simp only [i64_w, i32_w]; rw [d3a]) | skip
    by_cases e0 : a0_4 = 0
    · have e0a : (a0_4 == 0) = true := beq_iff_eq.mpr e0
      clear e0
      obtain ⟨hc9_0, hc9_1, hc9_2, hc9_3, hc9_4, hc9_5, hc9_6, hc9_7, hc9_8, hc9_9, hc9_10, hf9_0, hf9_1, hf9_2, hf9_3, hf9_4, hf9_5, hf9_6, hf9_7, hf9_8, hf9_9, hf9_10⟩ := c11_ BK
      go_wp2
      go_meet
      case rel => exact ⟨_, fz_, ⟨by simp [d3a, e0a]⟩, ⟨bk_ BK⟩, ⟨bl_1 HB GE⟩⟩
    have e0a : (a0_4 == 0) = false := beq_eq_false_iff_ne.mpr e0
    clear e0
    obtain ⟨hc10_0, hc10_1, hc10_2, hc10_3, hc10_4, hc10_5, hc10_6, hc10_7, hc10_8, hc10_9, hc10_10, hf10_0, hf10_1, hf10_2, hf10_3, hf10_4, hf10_5, hf10_6, hf10_7, hf10_8, hf10_9, hf10_10⟩ := c11_ BK
    go_wp2
    go_meet
    case rel => exact ⟨_, fz_, ⟨by simp [d3a, e0a]⟩, ⟨bk_ BK⟩, ⟨bl_1 HB GE⟩⟩
 case rest =>
 obtain ⟨x4, rfl, E4, BK, HB⟩ := hcut
 go_upto_region 6 with (fail)
 go_cut [4] (fun v4 wc => ∃ x5 : Bool, v4 = .bool x5 ∧ Aside0 (x5 = (x4 && (a0_0 == 2 || (a0_0 == 4 || (!a0_5))))) ∧ Aside0 (wc.heap[gb]? = some (.cells #[.int .u8 a0_0, .int .u64 a0_1, .int .u64 a0_2, .int .u64 a0_3, .int .u64 a0_4, .bool a0_5, .slice A0_6 l0_6.length c0_6, .int .u64 a0_7, .int .u64 a0_8, .slice A0_9 l0_9.length c0_9, .string a0_10] 37 (0, 0))) ∧ Aside0 (Below w.heap.size w wc))
 case first =>
  cases x4
  · clear E4
    go_wp2
    go_meet
    case rel => exact ⟨_, fz_, ⟨by simp []⟩, ⟨bk_ BK⟩, ⟨bl_1 HB GE⟩⟩
  · clear E4
    by_cases d2 : a0_0 = 2
    · have d2a : (a0_0 == 2) = true := beq_iff_eq.mpr d2
      have d2b : (a0_0 != 2) = false := bne_eq_false_iff_eq.mpr d2
      clear d2
      first | rw [d2a] | (simp only [i64_w, i32_w]; rw [d2a]) | skip
      go_wp2
      go_meet
      case rel => exact ⟨_, fz_, ⟨by simp [d2a]⟩, ⟨bk_ BK⟩, ⟨bl_1 HB GE⟩⟩
    have d2a : (a0_0 == 2) = false := beq_eq_false_iff_ne.mpr d2
    have d2b : (a0_0 != 2) = true := bne_iff_ne.mpr d2
    clear d2
    first | rw [d2a] | (simp only [i64_w, i32_w]; rw [d2a]) | skip
    by_cases d4 : a0_0 = 4
    · have d4a : (a0_0 == 4) = true := beq_iff_eq.mpr d4
      have d4b : (a0_0 != 4) = false := bne_eq_false_iff_eq.mpr d4
      clear d4
      go_wp2
      go_meet
      case rel => exact ⟨_, fz_, ⟨by simp [d2a, d4a]⟩, ⟨bk_ BK⟩, ⟨bl_1 HB GE⟩⟩
    have d4a : (a0_0 == 4) = false := beq_eq_false_iff_ne.mpr d4
    have d4b : (a0_0 != 4) = true := bne_iff_ne.mpr d4
    clear d4
    obtain ⟨hc11_0, hc11_1, hc11_2, hc11_3, hc11_4, hc11_5, hc11_6, hc11_7, hc11_8, hc11_9, hc11_10, hf11_0, hf11_1, hf11_2, hf11_3, hf11_4, hf11_5, hf11_6, hf11_7, hf11_8, hf11_9, hf11_10⟩ := c11_ BK
    go_wp2
    go_meet
    case rel => exact ⟨_, fz_, ⟨by simp [d2a, d4a]⟩, ⟨bk_ BK⟩, ⟨bl_1 HB GE⟩⟩
 case rest =>
 obtain ⟨x5, rfl, E5, BK, HB⟩ := hcut
 have ES : gafferref13_Check.b a0_0 a0_1 a0_2 a0_3 a0_4 a0_5 (l0_6.length : Int) = x5 := by unfold gafferref13_Check.b; rw [E5.out, E4.out, E3.out, E2.out, E1.out]
 rw [ES] at AS
 clear ES E1 E2 E3 E4 E5
 go_upto_region 7 with (fail)
 go_cut [4] (fun v4 wc => v4 = .bool s ∧ Aside0 (wc.heap[gb]? = some (.cells #[.int .u8 a0_0, .int .u64 a0_1, .int .u64 a0_2, .int .u64 a0_3, .int .u64 a0_4, .bool a0_5, .slice A0_6 l0_6.length c0_6, .int .u64 a0_7, .int .u64 a0_8, .slice A0_9 l0_9.length c0_9, .string a0_10] 37 (0, 0))) ∧ Aside0 (Below w.heap.size w wc))
 case first => as_aux_lemma =>
  unfold gafferref13_Check.s at AS
  cases x5
  · obtain rfl := Option.some.inj (AS.out.symm.trans (if_neg (by decide)))
    go_wp2
    go_meet
    case rel => exact ⟨fz_, ⟨bk_ BK⟩, ⟨bl_1 HB GE⟩⟩
  · replace AS := a_ ((if_pos rfl).symm.trans AS.out)
    by_cases d5 : a0_0 = 5
    · obtain rfl := Option.some.inj ((if_pos d5).symm.trans AS.out)
      have d5a : (a0_0 == 5) = true := beq_iff_eq.mpr d5
      have d5b : (a0_0 != 5) = false := bne_eq_false_iff_eq.mpr d5
      clear d5
      first | rw [d5a] | (simp only [i64_w, i32_w]; rw [d5a]) | skip
      go_wp2
      go_meet
      case rel => exact ⟨fz_, ⟨bk_ BK⟩, ⟨bl_1 HB GE⟩⟩
    · replace AS := a_ ((if_neg d5).symm.trans AS.out)
      have d5a : (a0_0 == 5) = false := beq_eq_false_iff_ne.mpr d5
      have d5b : (a0_0 != 5) = true := bne_iff_ne.mpr d5
      clear d5
      first | rw [d5a] | (simp only [i64_w, i32_w]; rw [d5a]) | skip
      obtain ⟨hc40_0, hc40_1, hc40_2, hc40_3, hc40_4, hc40_5, hc40_6, hc40_7, hc40_8, hc40_9, hc40_10, hf40_0, hf40_1, hf40_2, hf40_3, hf40_4, hf40_5, hf40_6, hf40_7, hf40_8, hf40_9, hf40_10⟩ := c11_ BK
      go_wp2_with (first | (go_at_call 34; (refine (gafferref05_Same.calls k a0_7 a0_8 _ _ l0_9 a0_10 0 0 _ _ ([] : List Int) (⟨#[]⟩ : ByteArray) s _ ?side1 ?side2 ?side3 ?side4 AS.out).mono ?_); (case side1 => exact cl_ (Kd.C_below HR9.out HB.out)); (case side2 => exact HC9.out); (case side3 => exact Kd.C_nil _ _); (case side4 => exact Nat.le_refl _); rintro e w35 ⟨rfl, hb⟩; (try clear AS); replace BK := bB_ BK hb; replace HB := hB_ (bl_1 HB GE) hb; (try clear hb)))
      go_meet
      case rel => exact ⟨fz_, ⟨bk_ BK⟩, ⟨bl_1 HB GE⟩⟩
 case rest =>
 obtain ⟨rfl, BK, HB⟩ := hcut
 clear AS
 go_upto_region 8 with (fail)
 go_cut [4] (fun v4 wc => v4 = .bool (c && decide ((l0_6.length : Int) ≤ 8)) ∧ Aside0 (wc.heap[gb]? = some (.cells #[.int .u8 a0_0, .int .u64 a0_1, .int .u64 a0_2, .int .u64 a0_3, .int .u64 a0_4, .bool a0_5, .slice A0_6 l0_6.length c0_6, .int .u64 a0_7, .int .u64 a0_8, .slice A0_9 l0_9.length c0_9, .string a0_10] 37 (0, 0))) ∧ Aside0 (Below w.heap.size w wc))
 case first => as_aux_lemma =>
  unfold gafferref13_Check.c at AC
  cases s
  · obtain rfl := Option.some.inj (AC.out.symm.trans (if_neg (by decide)))
    go_wp2
    go_meet
    case rel => exact ⟨fz_, ⟨bk_ BK⟩, ⟨bl_1 HB GE⟩⟩
  · replace AC := a_ ((if_pos rfl).symm.trans AC.out)
    by_cases d5 : a0_0 = 5
    rotate_left
    · obtain rfl := Option.some.inj ((if_neg d5).symm.trans AC.out)
      have d5a : (a0_0 == 5) = false := beq_eq_false_iff_ne.mpr d5
      have d5b : (a0_0 != 5) = true := bne_iff_ne.mpr d5
      clear d5
      first | rw [d5a] | (simp only [i64_w, i32_w]; rw [d5a]) | skip
      obtain ⟨hc41_0, hc41_1, hc41_2, hc41_3, hc41_4, hc41_5, hc41_6, hc41_7, hc41_8, hc41_9, hc41_10, hf41_0, hf41_1, hf41_2, hf41_3, hf41_4, hf41_5, hf41_6, hf41_7, hf41_8, hf41_9, hf41_10⟩ := c11_ BK
      go_wp2
      go_meet
      case rel => exact ⟨by rw [Bool.true_and], ⟨bk_ BK⟩, ⟨bl_1 HB GE⟩⟩
    obtain ⟨t, A0, AC0⟩ := Option.bind_eq_some_iff.mp ((if_pos d5).symm.trans AC.out)
    have A := a_ A0
    obtain rfl := Option.some.inj AC0
    have d5a : (a0_0 == 5) = true := beq_iff_eq.mpr d5
    have d5b : (a0_0 != 5) = false := bne_eq_false_iff_eq.mpr d5
    clear d5 AC AC0 A0
    first | rw [d5a] | (simp only [i64_w, i32_w]; rw [d5a]) | skip
    by_cases t0 : t = 0
    rotate_left
    · have t0a : (t == 0) = false := beq_eq_false_iff_ne.mpr t0
      have t0b : (t != 0) = true := bne_iff_ne.mpr t0
      obtain ⟨hc42_0, hc42_1, hc42_2, hc42_3, hc42_4, hc42_5, hc42_6, hc42_7, hc42_8, hc42_9, hc42_10, hf42_0, hf42_1, hf42_2, hf42_3, hf42_4, hf42_5, hf42_6, hf42_7, hf42_8, hf42_9, hf42_10⟩ := c11_ BK
      go_wp2_with (first | (go_at_call 38; (with_reducible refine (gafferref05_Check.calls k a0_7 a0_8 _ _ l0_9 a0_10 t _ ?side1 ?side2 A.out).mono ?_); (case side1 => exact cl_ (Kd.C_below HR9.out HB.out)); (case side2 => exact HC9.out); rintro e w49 ⟨rfl, hb⟩; replace BK := bB_ BK hb; replace HB := hB_ (bl_1 HB GE) hb; (try clear hb)))
      go_meet
      case rel => exact ⟨by simp only [t0a, Bool.false_and], ⟨bk_ BK⟩, ⟨bl_1 HB GE⟩⟩
    have t0a : (t == 0) = true := beq_iff_eq.mpr t0
    have t0b : (t != 0) = false := bne_eq_false_iff_eq.mpr t0
    clear t0
    by_cases p0 : a0_7 > 0
    · have p0a : decide (0 < a0_7) = true := decide_eq_true p0
      have p0b : decide (a0_7 > 0) = true := decide_eq_true p0
      clear p0
      obtain ⟨hc43_0, hc43_1, hc43_2, hc43_3, hc43_4, hc43_5, hc43_6, hc43_7, hc43_8, hc43_9, hc43_10, hf43_0, hf43_1, hf43_2, hf43_3, hf43_4, hf43_5, hf43_6, hf43_7, hf43_8, hf43_9, hf43_10⟩ := c11_ BK
      go_wp2_with (first | (go_at_call 38; (with_reducible refine (gafferref05_Check.calls k a0_7 a0_8 _ _ l0_9 a0_10 t _ ?side1 ?side2 A.out).mono ?_); (case side1 => exact cl_ (Kd.C_below HR9.out HB.out)); (case side2 => exact HC9.out); rintro e w49 ⟨rfl, hb⟩; replace BK := bB_ BK hb; replace HB := hB_ (bl_1 HB GE) hb; (try clear hb); obtain ⟨hc45_0, hc45_1, hc45_2, hc45_3, hc45_4, hc45_5, hc45_6, hc45_7, hc45_8, hc45_9, hc45_10, hf45_0, hf45_1, hf45_2, hf45_3, hf45_4, hf45_5, hf45_6, hf45_7, hf45_8, hf45_9, hf45_10⟩ := c11_ BK))
      go_meet
      case rel => exact ⟨by simp only [t0a, p0b, Bool.true_and], ⟨bk_ BK⟩, ⟨bl_1 HB GE⟩⟩
    · have p0a : decide (0 < a0_7) = false := decide_eq_false p0
      have p0b : decide (a0_7 > 0) = false := decide_eq_false p0
      clear p0
      obtain ⟨hc44_0, hc44_1, hc44_2, hc44_3, hc44_4, hc44_5, hc44_6, hc44_7, hc44_8, hc44_9, hc44_10, hf44_0, hf44_1, hf44_2, hf44_3, hf44_4, hf44_5, hf44_6, hf44_7, hf44_8, hf44_9, hf44_10⟩ := c11_ BK
      go_wp2_with (first | (go_at_call 38; (with_reducible refine (gafferref05_Check.calls k a0_7 a0_8 _ _ l0_9 a0_10 t _ ?side1 ?side2 A.out).mono ?_); (case side1 => exact cl_ (Kd.C_below HR9.out HB.out)); (case side2 => exact HC9.out); rintro e w49 ⟨rfl, hb⟩; replace BK := bB_ BK hb; replace HB := hB_ (bl_1 HB GE) hb; (try clear hb); obtain ⟨hc45_0, hc45_1, hc45_2, hc45_3, hc45_4, hc45_5, hc45_6, hc45_7, hc45_8, hc45_9, hc45_10, hf45_0, hf45_1, hf45_2, hf45_3, hf45_4, hf45_5, hf45_6, hf45_7, hf45_8, hf45_9, hf45_10⟩ := c11_ BK))
      go_meet
      case rel => exact ⟨by simp only [t0a, p0b, Bool.true_and, Bool.false_and], ⟨bk_ BK⟩, ⟨bl_1 HB GE⟩⟩
 case rest =>
 obtain ⟨rfl, BK, HB⟩ := hcut
 generalize (c && decide ((l0_6.length : Int) ≤ 8)) = x8 at HH ⊢
 clear AC
 obtain ⟨hc46_0, hc46_1, hc46_2, hc46_3, hc46_4, hc46_5, hc46_6, hc46_7, hc46_8, hc46_9, hc46_10, hf46_0, hf46_1, hf46_2, hf46_3, hf46_4, hf46_5, hf46_6, hf46_7, hf46_8, hf46_9, hf46_10⟩ := c11_ BK
 go_wp2
 go_loopg [4, 119] k (fun kq v4 v119 wc => ∃ (y : Bool) (j : Int), v4 = .bool y ∧ v119 = .int .i64 j ∧ Aside0 (gafferref13_Check.l0 kq y l0_6 j a0_2 = some r) ∧ Aside0 (kq ≤ k) ∧ Aside0 (wc.heap[gb]? = some (.cells #[.int .u8 a0_0, .int .u64 a0_1, .int .u64 a0_2, .int .u64 a0_3, .int .u64 a0_4, .bool a0_5, .slice A0_6 l0_6.length c0_6, .int .u64 a0_7, .int .u64 a0_8, .slice A0_9 l0_9.length c0_9, .string a0_10] 37 (0, 0))) ∧ Aside0 (Below w.heap.size w wc))
 case atStart => exact ⟨x8, 0, fz_, fz_, HH, ⟨Nat.le_refl _⟩, ⟨bk_ BK⟩, ⟨bl_1 HB GE⟩⟩
 case round =>
 clear HH
 obtain ⟨y, j, rfl, rfl, HA, HK, BK, HB⟩ := hrel
 cases gk with
 | zero => exact absurd HA.out (by simp [gafferref13_Check.l0])
 | succ k8 =>
 have H := HA.out
 clear HA
 simp only [gafferref13_Check.l0] at H
 by_cases c52 : j < (l0_6.length : Int)
 rotate_left
 · rw [if_neg c52] at H
   have c52b0 : decide (j < (l0_6.length : Int)) = false := decide_eq_false c52
   clear c52
   cases y
   · obtain rfl := Option.some.inj ((if_neg (by decide)).symm.trans H)
     go_wp2
     go_ret
     exact ⟨fz_, bl_1 HB GE⟩
   · obtain rfl := Option.some.inj ((if_pos rfl).symm.trans H)
     go_wp2
     go_ret
     exact ⟨fz_, bl_1 HB GE⟩
 rw [if_pos c52] at H
 by_cases c53 : 0 ≤ j
 rotate_left
 · rw [if_neg c53] at H
   exact absurd H (by simp)
 rw [if_pos c53] at H
 have c52b0 : decide (j < (l0_6.length : Int)) = true := decide_eq_true c52
 have c53b0 : decide (0 ≤ j) = true := decide_eq_true c53
 obtain ⟨ad, A4, c4, e156, hx0, hx1, hx2, hx3, hx4, hl4, hi4⟩ := at_T67 HR6.out j c53 c52
 cases e156
 replace hx0 := hc_ HB hx0
 replace hx1 := hc_ HB hx1
 replace hx2 := hc_ HB hx2
 replace hx3 := hc_ HB hx3
 replace hx4 := hc_ HB hx4
 have HR4 := a_ hi4
 have HC4 := a_ hl4
 clear hi4 hl4
 replace c53 := eq_true c53
 replace c52 := eq_true c52
 have HL := HK.out
 cases y
 · have H' := a_ ((if_neg (by decide)).symm.trans H)
   clear H
   go_wp2_with (first | ((with_reducible refine gd_ 6 ?_); (try (refine gate_guard (by rfl) ?_; dsimp only)); refine bx_ 6 #[.int .u64 0, .int .u64 0, .int .u8 0, .string (⟨#[]⟩ : ByteArray), .slice none 0 0] 67 ?_; intro gl hg w75 hbox hb; have BL := a_ (hbox); have GL := a_ (bs_1 hg HB GE); replace HB := hB_ (bl_1 HB GE) hb; have NB1 := nB_ hg BK; have NB2 := nC_ hg BK; replace BK := bB_ BK hb; clear hb hbox hg; have hnb := NB2.out; have hnc := NB1.out; obtain ⟨hc77_0, hc77_1, hc77_2, hc77_3, hc77_4, hf77_0, hf77_1, hf77_2, hf77_3, hf77_4⟩ := c5_ BL))
   go_roundg k8
   case measure => omega
   case rel => exact ⟨false, wrap64 (j + 1), fz_, fz_, H', ⟨by omega⟩, ⟨by (iterate 5 (refine bq_ ?_; refine blk_far ?_ NB1.out _)); exact bq_ BK.out⟩, ⟨bl_2 HB GE GL⟩⟩
 obtain ⟨t, A0, H⟩ := Option.bind_eq_some_iff.mp ((if_pos rfl).symm.trans H)
 have A := a_ A0
 clear A0
 try dsimp only at H
 by_cases t0 : t = 0
 rotate_left
 · have t0a : (t == 0) = false := beq_eq_false_iff_ne.mpr t0
   have t0b : (t != 0) = true := bne_iff_ne.mpr t0
   rw [t0a, Bool.false_and] at H
   have H' := a_ H
   clear H
   go_wp2_with (first | ((with_reducible refine gd_ 6 ?_); (try (refine gate_guard (by rfl) ?_; dsimp only)); refine bx_ 6 #[.int .u64 0, .int .u64 0, .int .u8 0, .string (⟨#[]⟩ : ByteArray), .slice none 0 0] 67 ?_; intro gl hg w75 hbox hb; have BL := a_ (hbox); have GL := a_ (bs_1 hg HB GE); replace HB := hB_ (bl_1 HB GE) hb; have NB1 := nB_ hg BK; have NB2 := nC_ hg BK; replace BK := bB_ BK hb; clear hb hbox hg; have hnb := NB2.out; have hnc := NB1.out; obtain ⟨hc77_0, hc77_1, hc77_2, hc77_3, hc77_4, hf77_0, hf77_1, hf77_2, hf77_3, hf77_4⟩ := c5_ BL) | (go_at_call 39; (with_reducible refine (gafferref03_Check.calls k8 ((rd_T67 l0_6 j).f0) ((rd_T67 l0_6 j).f1) ((rd_T67 l0_6 j).f2) ((rd_T67 l0_6 j).f3) _ _ ((rd_T67 l0_6 j).f4) t _ ?side1 ?side2 A.out).mono ?_); (case side1 => exact Kd.C_below HR4.out (bl_2 HB GE GL)); (case side2 => exact HC4.out); rintro e w62 ⟨rfl, hb⟩; replace BK := a_ (blk_below (g := gb) (o := .cells #[.int .u8 a0_0, .int .u64 a0_1, .int .u64 a0_2, .int .u64 a0_3, .int .u64 a0_4, .bool a0_5, .slice (some ad) l0_6.length c0_6, .int .u64 a0_7, .int .u64 a0_8, .slice A0_9 l0_9.length c0_9, .string a0_10] 37 (0, 0)) (bp_1 BK NB1) hb); replace BL := a_ (blk_below (g := gl) (o := .cells #[.int .u64 ((rd_T67 l0_6 j).f0), .int .u64 ((rd_T67 l0_6 j).f1), .int .u8 ((rd_T67 l0_6 j).f2), .string ((rd_T67 l0_6 j).f3), .slice A4 ((rd_T67 l0_6 j).f4).length c4] 67 (0, 0)) (bp_0 BL) hb); replace HB := hB_ (bl_2 HB GE GL) hb; (try clear hb); obtain ⟨hc78_0, hc78_1, hc78_2, hc78_3, hc78_4, hf78_0, hf78_1, hf78_2, hf78_3, hf78_4⟩ := c5_ BL; obtain ⟨hc79_0, hc79_1, hc79_2, hc79_3, hc79_4, hc79_5, hc79_6, hc79_7, hc79_8, hc79_9, hc79_10, hf79_0, hf79_1, hf79_2, hf79_3, hf79_4, hf79_5, hf79_6, hf79_7, hf79_8, hf79_9, hf79_10⟩ := c11_ BK))
   go_roundg k8
   case measure => omega
   case rel => exact ⟨false, wrap64 (j + 1), fz_, fz_, H', ⟨by omega⟩, ⟨bk_ BK⟩, ⟨bl_2 HB GE GL⟩⟩
 have t0a : (t == 0) = true := beq_iff_eq.mpr t0
 have t0b : (t != 0) = false := bne_eq_false_iff_eq.mpr t0
 clear t0
 rw [t0a, Bool.true_and] at H
 by_cases q0 : (IntKind.u64.wrap ((IntKind.u64.wrap (((rd_T67 l0_6 j).f0) - (IntKind.u64.wrap (j)))) - 1)) = a0_2
 rotate_left
 · have q0a : ((IntKind.u64.wrap ((IntKind.u64.wrap (((rd_T67 l0_6 j).f0) - (IntKind.u64.wrap (j)))) - 1)) == a0_2) = false := beq_eq_false_iff_ne.mpr q0
   rw [q0a, Bool.false_and] at H
   have H' := a_ H
   clear H
   go_wp2_with (first | ((with_reducible refine gd_ 6 ?_); (try (refine gate_guard (by rfl) ?_; dsimp only)); refine bx_ 6 #[.int .u64 0, .int .u64 0, .int .u8 0, .string (⟨#[]⟩ : ByteArray), .slice none 0 0] 67 ?_; intro gl hg w75 hbox hb; have BL := a_ (hbox); have GL := a_ (bs_1 hg HB GE); replace HB := hB_ (bl_1 HB GE) hb; have NB1 := nB_ hg BK; have NB2 := nC_ hg BK; replace BK := bB_ BK hb; clear hb hbox hg; have hnb := NB2.out; have hnc := NB1.out; obtain ⟨hc77_0, hc77_1, hc77_2, hc77_3, hc77_4, hf77_0, hf77_1, hf77_2, hf77_3, hf77_4⟩ := c5_ BL) | (go_at_call 39; (with_reducible refine (gafferref03_Check.calls k8 ((rd_T67 l0_6 j).f0) ((rd_T67 l0_6 j).f1) ((rd_T67 l0_6 j).f2) ((rd_T67 l0_6 j).f3) _ _ ((rd_T67 l0_6 j).f4) t _ ?side1 ?side2 A.out).mono ?_); (case side1 => exact Kd.C_below HR4.out (bl_2 HB GE GL)); (case side2 => exact HC4.out); rintro e w62 ⟨rfl, hb⟩; replace BK := a_ (blk_below (g := gb) (o := .cells #[.int .u8 a0_0, .int .u64 a0_1, .int .u64 a0_2, .int .u64 a0_3, .int .u64 a0_4, .bool a0_5, .slice (some ad) l0_6.length c0_6, .int .u64 a0_7, .int .u64 a0_8, .slice A0_9 l0_9.length c0_9, .string a0_10] 37 (0, 0)) (bp_1 BK NB1) hb); replace BL := a_ (blk_below (g := gl) (o := .cells #[.int .u64 ((rd_T67 l0_6 j).f0), .int .u64 ((rd_T67 l0_6 j).f1), .int .u8 ((rd_T67 l0_6 j).f2), .string ((rd_T67 l0_6 j).f3), .slice A4 ((rd_T67 l0_6 j).f4).length c4] 67 (0, 0)) (bp_0 BL) hb); replace HB := hB_ (bl_2 HB GE GL) hb; (try clear hb); obtain ⟨hc78_0, hc78_1, hc78_2, hc78_3, hc78_4, hf78_0, hf78_1, hf78_2, hf78_3, hf78_4⟩ := c5_ BL; obtain ⟨hc79_0, hc79_1, hc79_2, hc79_3, hc79_4, hc79_5, hc79_6, hc79_7, hc79_8, hc79_9, hc79_10, hf79_0, hf79_1, hf79_2, hf79_3, hf79_4, hf79_5, hf79_6, hf79_7, hf79_8, hf79_9, hf79_10⟩ := c11_ BK))
   go_roundg k8
   case measure => omega
   case rel => exact ⟨false, wrap64 (j + 1), fz_, fz_, H', ⟨by omega⟩, ⟨bk_ BK⟩, ⟨bl_2 HB GE GL⟩⟩
 have q0a : ((IntKind.u64.wrap ((IntKind.u64.wrap (((rd_T67 l0_6 j).f0) - (IntKind.u64.wrap (j)))) - 1)) == a0_2) = true := beq_iff_eq.mpr q0
 clear q0
 rw [q0a, Bool.true_and] at H
 have H' := a_ H
 clear H
 go_wp2_with (first | ((with_reducible refine gd_ 6 ?_); (try (refine gate_guard (by rfl) ?_; dsimp only)); refine bx_ 6 #[.int .u64 0, .int .u64 0, .int .u8 0, .string (⟨#[]⟩ : ByteArray), .slice none 0 0] 67 ?_; intro gl hg w75 hbox hb; have BL := a_ (hbox); have GL := a_ (bs_1 hg HB GE); replace HB := hB_ (bl_1 HB GE) hb; have NB1 := nB_ hg BK; have NB2 := nC_ hg BK; replace BK := bB_ BK hb; clear hb hbox hg; have hnb := NB2.out; have hnc := NB1.out; obtain ⟨hc77_0, hc77_1, hc77_2, hc77_3, hc77_4, hf77_0, hf77_1, hf77_2, hf77_3, hf77_4⟩ := c5_ BL) | (go_at_call 39; (with_reducible refine (gafferref03_Check.calls k8 ((rd_T67 l0_6 j).f0) ((rd_T67 l0_6 j).f1) ((rd_T67 l0_6 j).f2) ((rd_T67 l0_6 j).f3) _ _ ((rd_T67 l0_6 j).f4) t _ ?side1 ?side2 A.out).mono ?_); (case side1 => exact Kd.C_below HR4.out (bl_2 HB GE GL)); (case side2 => exact HC4.out); rintro e w62 ⟨rfl, hb⟩; replace BK := a_ (blk_below (g := gb) (o := .cells #[.int .u8 a0_0, .int .u64 a0_1, .int .u64 a0_2, .int .u64 a0_3, .int .u64 a0_4, .bool a0_5, .slice (some ad) l0_6.length c0_6, .int .u64 a0_7, .int .u64 a0_8, .slice A0_9 l0_9.length c0_9, .string a0_10] 37 (0, 0)) (bp_1 BK NB1) hb); replace BL := a_ (blk_below (g := gl) (o := .cells #[.int .u64 ((rd_T67 l0_6 j).f0), .int .u64 ((rd_T67 l0_6 j).f1), .int .u8 ((rd_T67 l0_6 j).f2), .string ((rd_T67 l0_6 j).f3), .slice A4 ((rd_T67 l0_6 j).f4).length c4] 67 (0, 0)) (bp_0 BL) hb); replace HB := hB_ (bl_2 HB GE GL) hb; (try clear hb); obtain ⟨hc78_0, hc78_1, hc78_2, hc78_3, hc78_4, hf78_0, hf78_1, hf78_2, hf78_3, hf78_4⟩ := c5_ BL; obtain ⟨hc79_0, hc79_1, hc79_2, hc79_3, hc79_4, hc79_5, hc79_6, hc79_7, hc79_8, hc79_9, hc79_10, hf79_0, hf79_1, hf79_2, hf79_3, hf79_4, hf79_5, hf79_6, hf79_7, hf79_8, hf79_9, hf79_10⟩ := c11_ BK))
 go_roundg k8
 case measure => omega
 case rel => exact ⟨_, wrap64 (j + 1), fz_, fz_, H', ⟨by omega⟩, ⟨bk_ BK⟩, ⟨bl_2 HB GE GL⟩⟩

def gafferref01_four.f (a0 : Int) : Option (ByteArray) := some (strOfNums (([(wrap64 (Int.tdiv a0 16777216)) % 256, (wrap64 (Int.tdiv a0 65536)) % 256, (wrap64 (Int.tdiv a0 256)) % 256, (a0) % 256] : List Int)))
theorem gafferref01_four.calls (a0 : Int) (r : ByteArray) (w : World) (h : gafferref01_four.f a0 = some r) :
  Calls Try.prog 46 #[.int .i64 a0] w fun e w' => e = .returned (.string r) ∧ Below w.heap.size w w' := by
 have HB := a_ (Below.refl w.heap.size w)
 have H := h
 unfold gafferref01_four.f at H
 clear h
 obtain ⟨y153, hy153⟩ : ∃ y_ : List Int, y_ = (([(wrap64 (Int.tdiv a0 16777216)) % 256, (wrap64 (Int.tdiv a0 65536)) % 256, (wrap64 (Int.tdiv a0 256)) % 256, (a0) % 256] : List Int)) := ⟨_, rfl⟩
 replace H : (some (strOfNums y153)) = some r := by first | (rw [hy153]; with_reducible exact H) | (have H2_ := (Option.bind_some _ _).symm.trans H; rw [hy153]; with_reducible exact H2_) | (have H2_ := (Option.bind_some _ _).symm.trans H; with_reducible exact H2_) | with_reducible exact H | (rw [hy153]; exact H) | exact H
 have Ny153 := a_ hy153
 clear hy153
 obtain rfl := Option.some.inj H
 go_enter Try.func46, Try.ntmps46
 go_wp2_with (first | ((with_reducible refine gd_ 14 ?_); refine Kd.R_lit (Kd.int .u8) _ 5 ?hg (N := 14) ?hd (xs := ([(wrap64 (Int.tdiv a0 16777216)) % 256, (wrap64 (Int.tdiv a0 65536)) % 256, (wrap64 (Int.tdiv a0 256)) % 256, (a0) % 256] : List Int)) (inner := [.int .u8 ((wrap64 (Int.tdiv a0 16777216)) % 256), .int .u8 ((wrap64 (Int.tdiv a0 65536)) % 256), .int .u8 ((wrap64 (Int.tdiv a0 256)) % 256), .int .u8 ((a0) % 256)]) (ok := fun _ => True) (okp := fun _ => True) ?hr ?hp (fun _ hk => hk) trivial (Below.refl _ _) (Nat.le_refl _) (by simp) ?_; (case hd => rfl); (case hg => rfl); (case hr => first | (go_simp; done) | (go_simp; rfl)); (case hp => exact (Reps.one (show Kd.M (Kd.int .u8) _ _ _ ((wrap64 (Int.tdiv a0 16777216)) % 256) [.int .u8 ((wrap64 (Int.tdiv a0 16777216)) % 256)] from rfl) (Reps.one (show Kd.M (Kd.int .u8) _ _ _ ((wrap64 (Int.tdiv a0 65536)) % 256) [.int .u8 ((wrap64 (Int.tdiv a0 65536)) % 256)] from rfl) (Reps.one (show Kd.M (Kd.int .u8) _ _ _ ((wrap64 (Int.tdiv a0 256)) % 256) [.int .u8 ((wrap64 (Int.tdiv a0 256)) % 256)] from rfl) (Reps.one (show Kd.M (Kd.int .u8) _ _ _ ((a0) % 256) [.int .u8 ((a0) % 256)] from rfl) (Reps.none _ _)))))); intro v154 w2 ho3 hb hg_ hnew_; clear hg_ hnew_; (first | rw [← Ny153.out] at ho3 | (simp only [Int.reduceToNat] at ho3; rw [← Ny153.out] at ho3)); have HO155 := a_ (Kd.R_lower ho3 (below_size (bl_ HB))); replace HB := hB_ (bl_ HB) hb; clear hb ho3; have hcv4 := own_string (P := Try.prog) Try.underlying26 Try.underlying5 Try.underlying9 (Kd.own_of_R HO155.out)))
 go_ret
 exact ⟨fz_, bl_ HB⟩

mutual
def gafferref01_Sum.l0 : Nat → ByteArray → Int → Int → Option (Int)
 | 0, _, _, _ => none
 | k + 1, x0, x3, x4 => if x4 < (x0.size : Int) then (if 0 ≤ x4 then (gafferref01_Sum.l1 k x0 (Go.bits .xor .u32 x3 ((((bt x0 x4) % 4294967296) * 256) % 4294967296)) x4 0) else (none)) else (some (IntKind.u16.wrap (x3)))
def gafferref01_Sum.l1 : Nat → ByteArray → Int → Int → Int → Option (Int)
 | 0, _, _, _, _ => none
 | k + 1, x0, x3, x4, x5 => if x5 < 8 then (if ((x3 * 2) % 4294967296) ≥ 65536 then (gafferref01_Sum.l1 k x0 (Go.bits .xor .u32 ((((x3 * 2) % 4294967296) - 65536) % 4294967296) 4129) x4 (wrap64 (x5 + 1))) else (gafferref01_Sum.l1 k x0 ((x3 * 2) % 4294967296) x4 (wrap64 (x5 + 1)))) else (gafferref01_Sum.l0 k x0 x3 (wrap64 (x4 + 1)))
end
def gafferref01_Sum.f (k : Nat) (a0 : ByteArray) : Option (Int) := gafferref01_Sum.l0 k a0 65535 0
theorem gafferref01_Sum.mono_l : ∀ k, (∀ y0 y1 y2, LeO (gafferref01_Sum.l0 k y0 y1 y2) (gafferref01_Sum.l0 (k + 1) y0 y1 y2)) ∧ (∀ y0 y1 y2 y3, LeO (gafferref01_Sum.l1 k y0 y1 y2 y3) (gafferref01_Sum.l1 (k + 1) y0 y1 y2 y3))
 | 0 => ⟨fun _ _ _ r h => by simp [gafferref01_Sum.l0] at h, fun _ _ _ _ r h => by simp [gafferref01_Sum.l1] at h⟩
 | k + 1 => by
  obtain ⟨ih0, ih1⟩ := gafferref01_Sum.mono_l k
  refine ⟨?_, ?_⟩
  ·intro y0 y1 y2
   unfold gafferref01_Sum.l0
   repeat' with_reducible first | apply ih0 | apply ih1 | apply LeO.refl | apply LeO.none | apply LeO.ite | refine LeO.bind ?_ (fun _ => ?_)
  ·intro y0 y1 y2 y3
   unfold gafferref01_Sum.l1
   repeat' with_reducible first | apply ih0 | apply ih1 | apply LeO.refl | apply LeO.none | apply LeO.ite | refine LeO.bind ?_ (fun _ => ?_)
theorem gafferref01_Sum.mono : ∀ a0 k, LeO (gafferref01_Sum.f k a0) (gafferref01_Sum.f (k + 1) a0) := by
 intro a0 k
 obtain ⟨ih0, ih1⟩ := gafferref01_Sum.mono_l k
 unfold gafferref01_Sum.f
 repeat' with_reducible first | apply ih0 | apply ih1 | apply LeO.refl | apply LeO.none | apply LeO.ite | refine LeO.bind ?_ (fun _ => ?_)
theorem gafferref01_Sum.calls (k : Nat) (a0 : ByteArray) (r : Int) (w : World) (h : gafferref01_Sum.f k a0 = some r) :
  Calls Try.prog 76 #[.string a0] w fun e w' => e = .returned (.int .u16 r) ∧ Drawn0 w w' := by
 have H := h
 unfold gafferref01_Sum.f at H
 clear h
 have H' := a_ H
 clear H
 go_enter Try.func76, Try.ntmps76
 go_wp2
 go_loopg [3, 4] k (fun kq v3 v4 w' => ∃ (x3_1 : Int) (x4_1 : Int), v3 = .int .u32 x3_1 ∧ v4 = .int .i64 x4_1 ∧ Aside0 (gafferref01_Sum.l0 kq a0 x3_1 x4_1 = some r) ∧ Aside0 (kq ≤ k) ∧ Drawn0 w w')
 case atStart => exact ⟨(65535), (0), fz_, fz_, H', ⟨Nat.le_refl _⟩, dr_⟩
 case round =>
  clear H'
  obtain ⟨x3_1, x4_1, rfl, rfl, HA, HK1, ⟨m1, rfl⟩⟩ := hrel
  cases gk with
  | zero => exact absurd HA.out (by simp [gafferref01_Sum.l0])
  | succ k1 =>
   have H := HA.out
   clear HA
   simp only [gafferref01_Sum.l0] at H
   by_cases c2 : x4_1 < (a0.size : Int)
   rotate_left
   ·rw [if_neg c2] at H
    have c2b0 : decide (x4_1 < (a0.size : Int)) = false := decide_eq_false c2
    clear c2
    obtain rfl := Option.some.inj H
    go_wp2
    go_ret
    exact ⟨fz_, dr_⟩


   rw [if_pos c2] at H
   have c2b0 : decide (x4_1 < (a0.size : Int)) = true := decide_eq_true c2
   clear c2
   by_cases c3 : 0 ≤ x4_1
   rotate_left
   ·rw [if_neg c3] at H
    exact absurd H (by simp)
   rw [if_pos c3] at H
   have c3b0 : decide (0 ≤ x4_1) = true := decide_eq_true c3
   clear c3
   have H' := a_ H
   clear H
   have p4 : 0 ≤ (x4_1 : Int) := od_
   have q4 : x4_1 < (a0.size : Int) := od_
   have hx4 := bt_at a0 x4_1
   replace p4 := eq_true p4
   replace q4 := eq_true q4
   go_wp2
   go_loopg [3, 5] k1 (fun kq v3 v5 w' => ∃ (x3_2 : Int) (x5_2 : Int), v3 = .int .u32 x3_2 ∧ v5 = .int .i64 x5_2 ∧ Aside0 (gafferref01_Sum.l1 kq a0 x3_2 x4_1 x5_2 = some r) ∧ Aside0 (kq ≤ k1) ∧ Drawn0 w w')
   case atStart => exact ⟨(Go.bits .xor .u32 x3_1 ((((bt a0 x4_1) % 4294967296) * 256) % 4294967296)), (0), fz_, fz_, H', ⟨Nat.le_refl _⟩, dr_⟩
   case round =>
    clear H'
    try clear c2
    try clear c2b0
    try clear p2
    try clear c3
    try clear c3b0
    try clear p4
    try clear q4
    try clear hx4
    try clear p4
    try clear q4
    obtain ⟨x3_2, x5_2, rfl, rfl, HA, HK2, ⟨m2, rfl⟩⟩ := hrel
    cases gk with
    | zero => exact absurd HA.out (by simp [gafferref01_Sum.l1])
    | succ k2 =>
     have H := HA.out
     clear HA
     simp only [gafferref01_Sum.l1] at H
     by_cases c5 : x5_2 < 8
     rotate_left
     ·rw [if_neg c5] at H
      have c5b0 : decide (x5_2 < 8) = false := decide_eq_false c5
      clear c5
      have H' := a_ H
      clear H
      go_wp2
      go_roundg k2
      case measure => have := HK1.out; have := HK2.out; omega
      case rel => exact ⟨(x3_2), (wrap64 (x4_1 + 1)), fz_, fz_, H', ⟨by have := HK1.out; have := HK2.out; omega⟩, dr_⟩
     rw [if_pos c5] at H
     have c5b0 : decide (x5_2 < 8) = true := decide_eq_true c5
     clear c5
     by_cases c6 : ((x3_2 * 2) % 4294967296) ≥ 65536
     rotate_left
     ·rw [if_neg c6] at H
      have c6b0 : decide (65536 ≤ ((x3_2 * 2) % 4294967296)) = false := decide_eq_false c6
      clear c6
      have H' := a_ H
      clear H
      go_wp2
      go_roundg k2
      case measure => have := HK1.out; have := HK2.out; omega
      case rel => exact ⟨((x3_2 * 2) % 4294967296), (wrap64 (x5_2 + 1)), fz_, fz_, H', ⟨by have := HK1.out; have := HK2.out; omega⟩, dr_⟩
     rw [if_pos c6] at H
     have c6b0 : decide (65536 ≤ ((x3_2 * 2) % 4294967296)) = true := decide_eq_true c6
     clear c6
     have H' := a_ H
     clear H
     go_wp2
     go_roundg k2
     case measure => have := HK1.out; have := HK2.out; omega
     case rel => exact ⟨(Go.bits .xor .u32 ((((x3_2 * 2) % 4294967296) - 65536) % 4294967296) 4129), (wrap64 (x5_2 + 1)), fz_, fz_, H', ⟨by have := HK1.out; have := HK2.out; omega⟩, dr_⟩
def gafferref01_check.f (k : Nat) (a0 : ByteArray) : Option (ByteArray) := (gafferref01_Sum.f k a0).bind fun t156 => (some (strOfNums (([(IntKind.u16.wrap (Int.tdiv t156 256)) % 256, (t156) % 256] : List Int))))
theorem gafferref01_check.mono : ∀ a0 k, LeO (gafferref01_check.f k a0) (gafferref01_check.f (k + 1) a0) := by
 intro a0 k
 unfold gafferref01_check.f
 repeat' with_reducible first | apply gafferref01_Sum.mono | apply LeO.refl | apply LeO.none | apply LeO.ite | refine LeO.bind ?_ (fun _ => ?_)
theorem gafferref01_check.calls (k : Nat) (a0 : ByteArray) (r : ByteArray) (w : World) (h : gafferref01_check.f k a0 = some r) :
  Calls Try.prog 47 #[.string a0] w fun e w' => e = .returned (.string r) ∧ Below w.heap.size w w' := by
 have HB := a_ (Below.refl w.heap.size w)
 have H := h
 unfold gafferref01_check.f at H
 clear h
 obtain ⟨t156, A20, H⟩ := Option.bind_eq_some_iff.mp H
 try dsimp only at H
 have A2 := a_ A20
 clear A20
 obtain ⟨y157, hy157⟩ : ∃ y_ : List Int, y_ = (([(IntKind.u16.wrap (Int.tdiv t156 256)) % 256, (t156) % 256] : List Int)) := ⟨_, rfl⟩
 replace H : (some (strOfNums y157)) = some r := by first | (rw [hy157]; with_reducible exact H) | (have H2_ := (Option.bind_some _ _).symm.trans H; rw [hy157]; with_reducible exact H2_) | (have H2_ := (Option.bind_some _ _).symm.trans H; with_reducible exact H2_) | with_reducible exact H | (rw [hy157]; exact H) | exact H
 have Ny157 := a_ hy157
 clear hy157
 obtain rfl := Option.some.inj H
 go_enter Try.func47, Try.ntmps47
 go_wp2_with (first | ((with_reducible refine gk_ 76 ?_); refine gl_ (some 5) Try.func76 #[.string a0] ?_; (with_reducible refine (gafferref01_Sum.calls k a0 t156 _ A2.out).mono ?_); rintro e w' ⟨rfl, ⟨nd, rfl⟩⟩; refine ⟨_, rfl, ?_⟩) | ((with_reducible refine gd_ 11 ?_); refine Kd.R_lit (Kd.int .u8) _ 5 ?hg (N := 11) ?hd (xs := ([(IntKind.u16.wrap (Int.tdiv t156 256)) % 256, (t156) % 256] : List Int)) (inner := [.int .u8 ((IntKind.u16.wrap (Int.tdiv t156 256)) % 256), .int .u8 ((t156) % 256)]) (ok := fun _ => True) (okp := fun _ => True) ?hr ?hp (fun _ hk => hk) trivial (Below.refl _ _) (Nat.le_refl _) (by simp) ?_; (case hd => rfl); (case hg => rfl); (case hr => first | (go_simp; done) | (go_simp; rfl)); (case hp => exact (Reps.one (show Kd.M (Kd.int .u8) _ _ _ ((IntKind.u16.wrap (Int.tdiv t156 256)) % 256) [.int .u8 ((IntKind.u16.wrap (Int.tdiv t156 256)) % 256)] from rfl) (Reps.one (show Kd.M (Kd.int .u8) _ _ _ ((t156) % 256) [.int .u8 ((t156) % 256)] from rfl) (Reps.none _ _)))); intro v158 w3 ho4 hb hg_ hnew_; clear hg_ hnew_; (first | rw [← Ny157.out] at ho4 | (simp only [Int.reduceToNat] at ho4; rw [← Ny157.out] at ho4)); have HO159 := a_ (Kd.R_lower ho4 (below_size (bl_ HB))); replace HB := hB_ (bl_ HB) hb; clear hb ho4; have hcv5 := own_string (P := Try.prog) Try.underlying26 Try.underlying5 Try.underlying9 (Kd.own_of_R HO159.out)))
 go_ret
 exact ⟨fz_, bl_ HB⟩

def gafferref01_Frame.f (k : Nat) (a0 : ByteArray) : Option (ByteArray × Int) := if (a0.size : Int) > 65536 then (some ((⟨#[]⟩ : ByteArray), 2)) else ((gafferref01_four.f (a0.size : Int)).bind fun t160 => (if t160.size + a0.size ≤ 9223372036854775807 then ((gafferref01_check.f k (t160 ++ a0)).bind fun t161 => (if t160.size + t161.size ≤ 9223372036854775807 then (if (t160 ++ t161).size + a0.size ≤ 9223372036854775807 then (some ((t160 ++ t161) ++ a0, 0)) else (none)) else (none))) else (none)))
theorem gafferref01_Frame.mono : ∀ a0 k, LeO (gafferref01_Frame.f k a0) (gafferref01_Frame.f (k + 1) a0) := by
 intro a0 k
 unfold gafferref01_Frame.f
 repeat' with_reducible first | apply gafferref01_check.mono | apply LeO.refl | apply LeO.none | apply LeO.ite | refine LeO.bind ?_ (fun _ => ?_)
theorem gafferref01_Frame.calls (k : Nat) (a0 : ByteArray) (r1 : ByteArray) (r2 : Int) (w : World) (h : gafferref01_Frame.f k a0 = some (r1, r2)) :
  Calls Try.prog 25 #[.string a0] w fun e w' => e = .returned (.tuple #[.string r1, .int .i64 r2]) ∧ Below w.heap.size w w' := by
 have HB := a_ (Below.refl w.heap.size w)
 have H := h
 unfold gafferref01_Frame.f at H
 clear h
 by_cases c2 : (a0.size : Int) > 65536
 ·rw [if_pos c2] at H
  have c2b0 : decide (65536 < (a0.size : Int)) = true := decide_eq_true c2
  have c2b1 : decide (65536 < a0.size) = true := decide_eq_true (by omega)
  clear c2
  simp only [Option.some.injEq, Prod.mk.injEq] at H
  obtain ⟨rfl, rfl⟩ := H
  go_enter Try.func25, Try.ntmps25
  go_wp2
  go_ret2
  exact ⟨fz_, bl_ HB⟩
 rw [if_neg c2] at H
 have c2b0 : decide (65536 < (a0.size : Int)) = false := decide_eq_false c2
 have c2b1 : decide (65536 < a0.size) = false := decide_eq_false (by omega)
 clear c2
 obtain ⟨t160, A30, H⟩ := Option.bind_eq_some_iff.mp H
 try dsimp only at H
 have A3 := a_ A30
 clear A30
 by_cases c4 : t160.size + a0.size ≤ 9223372036854775807
 rotate_left
 ·rw [if_neg c4] at H
  exact absurd H (by simp)


 rw [if_pos c4] at H
 have c4b0 := eq_true c4
 have c4b1 : decide (t160.size + a0.size ≤ 9223372036854775807) = true := decide_eq_true c4
 try have c4b2 : (9223372036854775807 < t160.size + a0.size) = False := eq_false (Nat.not_lt.2 c4)
 clear c4
 obtain ⟨t161, A50, H⟩ := Option.bind_eq_some_iff.mp H
 try dsimp only at H
 have A5 := a_ A50
 clear A50
 by_cases c6 : t160.size + t161.size ≤ 9223372036854775807
 rotate_left
 ·rw [if_neg c6] at H
  exact absurd H (by simp)
 rw [if_pos c6] at H
 have c6b0 := eq_true c6
 have c6b1 : decide (t160.size + t161.size ≤ 9223372036854775807) = true := decide_eq_true c6
 try have c6b2 : (9223372036854775807 < t160.size + t161.size) = False := eq_false (Nat.not_lt.2 c6)
 clear c6
 by_cases c7 : (t160 ++ t161).size + a0.size ≤ 9223372036854775807
 rotate_left
 ·rw [if_neg c7] at H
  exact absurd H (by simp)
 rw [if_pos c7] at H
 have c7b0 := eq_true c7
 have c7b1 : decide ((t160 ++ t161).size + a0.size ≤ 9223372036854775807) = true := decide_eq_true c7
 try have c7b2 : (9223372036854775807 < (t160 ++ t161).size + a0.size) = False := eq_false (Nat.not_lt.2 c7)
 clear c7
 simp only [Option.some.injEq, Prod.mk.injEq] at H
 obtain ⟨rfl, rfl⟩ := H
 (try (have c7b0x := c7b0; simp only [ByteArray.size_extract, ByteArray.size_append, Nat.min_self, Nat.sub_zero] at c7b0x))
 (try (have c7b1x := c7b1; simp only [ByteArray.size_extract, ByteArray.size_append, Nat.min_self, Nat.sub_zero] at c7b1x))
 (try (have c7b2x := c7b2; simp only [ByteArray.size_extract, ByteArray.size_append, Nat.min_self, Nat.sub_zero] at c7b2x))
 go_enter Try.func25, Try.ntmps25
 go_wp2_with (first | ((with_reducible refine gk_ 46 ?_); refine gl_ (some 10) Try.func46 #[.int .i64 (a0.size : Int)] ?_; (with_reducible refine (gafferref01_four.calls (a0.size : Int) t160 _ A3.out).mono ?_); rintro e w8 ⟨rfl, hb⟩; refine ⟨_, rfl, ?_⟩; replace HB := hB_ (bl_ HB) hb; (try clear hb)) | ((with_reducible refine gk_ 47 ?_); refine gl_ (some 15) Try.func47 #[.string (t160 ++ a0)] ?_; (with_reducible refine (gafferref01_check.calls k (t160 ++ a0) t161 _ A5.out).mono ?_); rintro e w9 ⟨rfl, hb⟩; refine ⟨_, rfl, ?_⟩; replace HB := hB_ (bl_ HB) hb; (try clear hb)))
 go_ret2
 exact ⟨fz_, bl_ HB⟩
def gafferref01_Number.l0 : Nat → Int → List Int → Option (ByteArray)
 | 0, _, _ => none
 | k + 1, x0, x3 => if x0 > 0 then ((some (([(Int.tmod x0 256) % 256] : List Int) : List Int)).bind fun y162 => (if y162.length + x3.length < 140737488355328 then (gafferref01_Number.l0 k (IntKind.u64.wrap (Int.tdiv x0 256)) (y162 ++ x3)) else (none))) else ((some (([((x3.length : Int)) % 256] : List Int) : List Int)).bind fun y168 => (if y168.length + x3.length < 140737488355328 then (some (strOfNums (y168 ++ x3))) else (none)))
def gafferref01_Number.f (k : Nat) (a0 : Int) : Option (ByteArray) := gafferref01_Number.l0 k a0 ([] : List Int)
theorem gafferref01_Number.mono_l : ∀ k, (∀ y0 y1, LeO (gafferref01_Number.l0 k y0 y1) (gafferref01_Number.l0 (k + 1) y0 y1))
 | 0 => fun _ _ r h => by simp [gafferref01_Number.l0] at h
 | k + 1 => by
  have ih0 := gafferref01_Number.mono_l k
  ·intro y0 y1
   unfold gafferref01_Number.l0
   repeat' with_reducible first | apply ih0 | apply LeO.refl | apply LeO.none | apply LeO.ite | refine LeO.bind ?_ (fun _ => ?_)
theorem gafferref01_Number.mono : ∀ a0 k, LeO (gafferref01_Number.f k a0) (gafferref01_Number.f (k + 1) a0) := by
 intro a0 k
 have ih0 := gafferref01_Number.mono_l k
 unfold gafferref01_Number.f
 repeat' with_reducible first | apply ih0 | apply LeO.refl | apply LeO.none | apply LeO.ite | refine LeO.bind ?_ (fun _ => ?_)
theorem gafferref01_Number.calls (k : Nat) (a0 : Int) (r : ByteArray) (w : World) (h : gafferref01_Number.f k a0 = some r) :
  Calls Try.prog 48 #[.int .u64 a0] w fun e w' => e = .returned (.string r) ∧ Below w.heap.size w w' := by
 have HB := a_ (Below.refl w.heap.size w)
 have H := h
 unfold gafferref01_Number.f at H
 clear h
 have H' := a_ H
 clear H
 go_enter Try.func48, Try.ntmps48
 go_wp2
 go_loopg [0, 3] k (fun kq v0 v3 w' => ∃ (x0_1 : Int) (x3_1 : List Int), v0 = .int .u64 x0_1 ∧ Aside0 (gafferref01_Number.l0 kq x0_1 x3_1 = some r) ∧ Aside0 (kq ≤ k) ∧ Aside0 (Kd.R (Kd.int .u8) 5 w' w.heap.size (fun _ => True) v3 x3_1) ∧ Aside0 (Below w.heap.size w w'))
 case atStart => exact ⟨(a0), (([] : List Int)), fz_, H', ⟨Nat.le_refl _⟩, ⟨by first | exact Kd.R_nil _ _ _ _ _ | exact Kd.N_nil _ _ _ _ _ | exact Kd.V_nil _ _ _ _ _ | exact Kd.Q_nil _ _ _ _ _ | exact Kd.S_nil _ _ _ _ _⟩, ⟨bl_ HB⟩⟩
 case round =>
  clear H'
  obtain ⟨x_1, x_2, rfl, HA, HK_1, HO_1, HB⟩ := hrel
  cases gk with
  | zero => exact absurd HA.out (by simp [gafferref01_Number.l0])
  | succ k1 =>
   have H := HA.out
   clear HA
   simp only [gafferref01_Number.l0] at H
   by_cases c_1 : x_1 > 0
   rotate_left
   ·rw [if_neg c_1] at H
    have c_2 : decide (0 < x_1) = false := decide_eq_false c_1
    clear c_1
    obtain ⟨y_1, hy_1⟩ : ∃ y_ : List Int, y_ = (([((x_2.length : Int)) % 256] : List Int)) := ⟨_, rfl⟩
    replace H : (if y_1.length + x_2.length < 140737488355328 then (some (strOfNums (y_1 ++ x_2))) else (none)) = some r := by first | (rw [hy_1]; with_reducible exact H) | (have H_1 := (Option.bind_some _ _).symm.trans H; rw [hy_1]; with_reducible exact H_1) | (have H_1 := (Option.bind_some _ _).symm.trans H; with_reducible exact H_1) | with_reducible exact H | (rw [hy_1]; exact H) | exact H
    have Ny_1 := a_ hy_1
    clear hy_1
    by_cases c_3 : y_1.length + x_2.length < 140737488355328
    rotate_left
    ·rw [if_neg c_3] at H
     exact absurd H (by simp)
    rw [if_pos c_3] at H
    have LMc_1 := a_ c_3
    clear c_3
    obtain ⟨y_2, hy_2⟩ : ∃ y_ : List Int, y_ = (y_1 ++ x_2) := ⟨_, rfl⟩
    replace H : (some (strOfNums y_2)) = some r := by first | (rw [hy_2]; with_reducible exact H) | (have H_1 := (Option.bind_some _ _).symm.trans H; rw [hy_2]; with_reducible exact H_1) | (have H_1 := (Option.bind_some _ _).symm.trans H; with_reducible exact H_1) | with_reducible exact H | (rw [hy_2]; exact H) | exact H
    have Ny_2 := a_ hy_2
    clear hy_2
    obtain rfl := Option.some.inj H
    obtain ⟨Ao_1, co_1, eo_1⟩ := Kd.R_slice HO_1.out
    subst eo_1
    go_wp2_with (first | ((with_reducible refine gd_ 17 ?_); refine Kd.R_lit (Kd.int .u8) _ 5 ?hg (N := 17) ?hd (xs := ([((x_2.length : Int)) % 256] : List Int)) (inner := [.int .u8 (((x_2.length : Int)) % 256)]) (ok := fun _ => True) (okp := fun _ => True) ?hr ?hp (fun _ hk => hk) trivial (Below.refl _ _) (Nat.le_refl _) (by simp) ?_; (case hd => rfl); (case hg => rfl); (case hr => first | (go_simp; done) | (go_simp; rfl)); (case hp => exact (Reps.one (show Kd.M (Kd.int .u8) _ _ _ (((x_2.length : Int)) % 256) [.int .u8 (((x_2.length : Int)) % 256)] from rfl) (Reps.none _ _))); intro v_1 w_1 ho_1 hb hg_ hnew_; clear hg_ hnew_; (first | rw [← Ny_1.out] at ho_1 | (simp only [Int.reduceToNat] at ho_1; rw [← Ny_1.out] at ho_1)); have HO_2 := a_ (Kd.R_lower (Kd.R_new' ho_1 (Kd.R_lt (by refine rq_ ?_; exact HO_1.out))) (below_size (bl_ HB))); replace HO_1 := a_ (Kd.R_elder' (by refine rq_ ?_; exact HO_1.out) (Kd.R_base ho_1) hb); replace HB := hB_ (bl_ HB) hb; clear hb ho_1) | ((with_reducible refine gate_builtin (b := .append) (xs := #[.tmp 17, .tmp 18]) rfl ?_); at_builtin; refine Kd.R_append_rows (Kd.int .u8) (w0 := w) w.heap.size rfl (.tmp 17) (.tmp 18) 26 5 (.int .u8 0) 1 rfl Try.underlying26 info5 rfl (by decide) (by omega) v_1 y_1 x_2 _ _ _ (fun k_ => some k_ ≠ (.slice Ao_1 x_2.length co_1 : Value).ownBlock) (fun _ => False) rfl rfl ?aO ?aR (fun _ _ h => h) (fun _ h => h.elim) ?aF ?aB ?aS ?aL ?_; (case aR => exact cl_ ((Kd.R_reads' HO_1.out).2.2)); (case aB => exact (bl_ HB)); (case aF => exact (fun k_ hk => Kd.fresh' (Kd.R_lt (by refine rq_ ?_; exact HO_1.out)) k_ hk)); (case aO => exact (by refine rq_ ?_; exact Kd.R_mono HO_2.out (fun _ hk => hk.2))); (case aS => exact (below_size (bl_ HB))); (case aL => have := LMc_1.out; omega); intro v_2 w_2 ho hb hg hat; rw [← Ny_2.out] at ho; replace HO_1 := a_ (Kd.R_after (ok := (fun _ => True)) (by refine rq_ ?_; exact HO_1.out) hg hat); replace HB := a_ (hb); have HO_3 := a_ (ho); clear HO_2; clear ho hb hg hat; have hcv_1 := own_string (P := Try.prog) Try.underlying26 Try.underlying5 Try.underlying9 (Kd.own_of_R HO_3.out)))
    go_ret
    exact ⟨fz_, bl_ HB⟩
   rw [if_pos c_1] at H
   have c_2 : decide (0 < x_1) = true := decide_eq_true c_1
   clear c_1
   obtain ⟨y_3, hy_3⟩ : ∃ y_ : List Int, y_ = (([(Int.tmod x_1 256) % 256] : List Int)) := ⟨_, rfl⟩
   replace H : (if y_3.length + x_2.length < 140737488355328 then (gafferref01_Number.l0 k1 (IntKind.u64.wrap (Int.tdiv x_1 256)) (y_3 ++ x_2)) else (none)) = some r := by first | (rw [hy_3]; with_reducible exact H) | (have H_1 := (Option.bind_some _ _).symm.trans H; rw [hy_3]; with_reducible exact H_1) | (have H_1 := (Option.bind_some _ _).symm.trans H; with_reducible exact H_1) | with_reducible exact H | (rw [hy_3]; exact H) | exact H
   have Ny_3 := a_ hy_3
   clear hy_3
   by_cases c_4 : y_3.length + x_2.length < 140737488355328
   rotate_left
   ·rw [if_neg c_4] at H
    exact absurd H (by simp)
   rw [if_pos c_4] at H
   have LMc_2 := a_ c_4
   clear c_4
   obtain ⟨y_4, hy_4⟩ : ∃ y_ : List Int, y_ = (y_3 ++ x_2) := ⟨_, rfl⟩
   replace H : (gafferref01_Number.l0 k1 (IntKind.u64.wrap (Int.tdiv x_1 256)) y_4) = some r := by first | (rw [hy_4]; with_reducible exact H) | (have H_1 := (Option.bind_some _ _).symm.trans H; rw [hy_4]; with_reducible exact H_1) | (have H_1 := (Option.bind_some _ _).symm.trans H; with_reducible exact H_1) | with_reducible exact H | (rw [hy_4]; exact H) | exact H
   have Ny_4 := a_ hy_4
   clear hy_4
   have H' := a_ H
   clear H
   go_wp2_with (first | ((with_reducible refine gd_ 9 ?_); refine Kd.R_lit (Kd.int .u8) _ 5 ?hg (N := 9) ?hd (xs := ([(Int.tmod x_1 256) % 256] : List Int)) (inner := [.int .u8 ((Int.tmod x_1 256) % 256)]) (ok := fun _ => True) (okp := fun _ => True) ?hr ?hp (fun _ hk => hk) trivial (Below.refl _ _) (Nat.le_refl _) (by simp) ?_; (case hd => rfl); (case hg => rfl); (case hr => first | (go_simp; done) | (go_simp; rfl)); (case hp => exact (Reps.one (show Kd.M (Kd.int .u8) _ _ _ ((Int.tmod x_1 256) % 256) [.int .u8 ((Int.tmod x_1 256) % 256)] from rfl) (Reps.none _ _))); intro v_3 w_3 ho_2 hb hg_ hnew_; clear hg_ hnew_; (first | rw [← Ny_3.out] at ho_2 | (simp only [Int.reduceToNat] at ho_2; rw [← Ny_3.out] at ho_2)); have HO_4 := a_ (Kd.R_lower (Kd.R_new' ho_2 (Kd.R_lt (by refine rq_ ?_; exact HO_1.out))) (below_size (bl_ HB))); replace HO_1 := a_ (Kd.R_elder' (by refine rq_ ?_; exact HO_1.out) (Kd.R_base ho_2) hb); replace HB := hB_ (bl_ HB) hb; clear hb ho_2; obtain ⟨Ao_2, co_2, eo_2⟩ := Kd.R_slice HO_1.out; subst eo_2) | ((with_reducible refine gate_builtin (b := .append) (xs := #[.tmp 9, .tmp 10]) rfl ?_); at_builtin; refine Kd.R_append_rows (Kd.int .u8) (w0 := w) w.heap.size rfl (.tmp 9) (.tmp 10) 26 5 (.int .u8 0) 1 rfl Try.underlying26 info5 rfl (by decide) (by omega) v_3 y_3 x_2 _ _ _ (fun k_ => some k_ ≠ (.slice Ao_2 x_2.length co_2 : Value).ownBlock) (fun _ => False) rfl rfl ?aO ?aR (fun _ _ h => h) (fun _ h => h.elim) ?aF ?aB ?aS ?aL ?_; (case aR => exact cl_ ((Kd.R_reads' HO_1.out).2.2)); (case aB => exact (bl_ HB)); (case aF => exact (fun k_ hk => Kd.fresh' (Kd.R_lt (by refine rq_ ?_; exact HO_1.out)) k_ hk)); (case aO => exact (by refine rq_ ?_; exact Kd.R_mono HO_4.out (fun _ hk => hk.2))); (case aS => exact (below_size (bl_ HB))); (case aL => have := LMc_2.out; omega); intro v_4 w_4 ho hb hg hat; rw [← Ny_4.out] at ho; replace HO_1 := a_ (Kd.R_after (ok := (fun _ => True)) (by refine rq_ ?_; exact HO_1.out) hg hat); replace HB := a_ (hb); have HO_5 := a_ (ho); clear HO_4; clear ho hb hg hat))
   go_roundg k1
   case measure => have := HK_1.out; omega
   case rel => exact ⟨(IntKind.u64.wrap (Int.tdiv x_1 256)), (y_4), fz_, H', ⟨by have := HK_1.out; omega⟩, ⟨by refine rq_ ?_; exact Kd.R_mono HO_5.out (fun _ hk => trivial)⟩, ⟨bl_ HB⟩⟩

def gafferref13_flag.f (k : Nat) (a0 : Bool) : Option (ByteArray) := if a0 = true then ((gafferref01_Number.f k 1).bind fun t174 => (some t174)) else ((gafferref01_Number.f k 0).bind fun t175 => (some t175))
theorem gafferref13_flag.mono : ∀ a0 k, LeO (gafferref13_flag.f k a0) (gafferref13_flag.f (k + 1) a0) := by
 intro a0 k
 unfold gafferref13_flag.f
 repeat' with_reducible first | apply gafferref01_Number.mono | apply LeO.refl | apply LeO.none | apply LeO.ite | refine LeO.bind ?_ (fun _ => ?_)
theorem gafferref13_flag.calls (k : Nat) (a0 : Bool) (r : ByteArray) (w : World) (h : gafferref13_flag.f k a0 = some r) :
  Calls Try.prog 49 #[.bool a0] w fun e w' => e = .returned (.string r) ∧ Below w.heap.size w w' := by
 have HB := a_ (Below.refl w.heap.size w)
 have H := h
 unfold gafferref13_flag.f at H
 clear h
 by_cases c2 : a0 = true
 ·subst c2
  have H1 : ((gafferref01_Number.f k 1).bind fun t174 => (some t174)) = some r := by rw [if_pos rfl] at H; exact H
  clear H
  have H := H1
  clear H1
  obtain ⟨t174, A30, H⟩ := Option.bind_eq_some_iff.mp H
  try dsimp only at H
  have A3 := a_ A30
  clear A30
  obtain rfl := Option.some.inj H
  go_enter Try.func49, Try.ntmps49
  go_wp2_with (first | ((with_reducible refine gk_ 48 ?_); refine gl_ (some 4) Try.func48 #[.int .u64 1] ?_; (with_reducible refine (gafferref01_Number.calls k 1 t174 _ A3.out).mono ?_); rintro e w4 ⟨rfl, hb⟩; refine ⟨_, rfl, ?_⟩; replace HB := hB_ (bl_ HB) hb; (try clear hb)))
  go_ret
  exact ⟨fz_, bl_ HB⟩
 replace c2 := Bool.eq_false_iff.mpr c2
 subst c2
 have H1 : ((gafferref01_Number.f k 0).bind fun t175 => (some t175)) = some r := by rw [if_neg (show ¬ (false = true) by decide)] at H; exact H
 clear H
 have H := H1
 clear H1
 obtain ⟨t175, A50, H⟩ := Option.bind_eq_some_iff.mp H
 try dsimp only at H
 have A5 := a_ A50
 clear A50
 obtain rfl := Option.some.inj H
 go_enter Try.func49, Try.ntmps49
 go_wp2_with (first | ((with_reducible refine gk_ 48 ?_); refine gl_ (some 5) Try.func48 #[.int .u64 0] ?_; (with_reducible refine (gafferref01_Number.calls k 0 t175 _ A5.out).mono ?_); rintro e w6 ⟨rfl, hb⟩; refine ⟨_, rfl, ?_⟩; replace HB := hB_ (bl_ HB) hb; (try clear hb)))
 go_ret
 exact ⟨fz_, bl_ HB⟩

end Go.Proofs.Ytcdibodjkdoknaa.PM
