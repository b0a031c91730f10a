-- By a program of this session.
import Derived.Test.YtcdibodjkdoknaaPMx0
import Derived.Test.YtcdibodjkdoknaaPMx8
namespace Go.Proofs.Ytcdibodjkdoknaa.PM
open Go.RowKit YtcdibodjkdoknaaW.PrintWords YtcdibodjkdoknaaW.PrintLast YtcdibodjkdoknaaW.PrintMore Sh Ytcdibodjkdoknaa.Op
attribute [local go_sem] max2_int min2_int max_two min_two max_three min_three max_four min_four
set_option linter.unusedVariables false
set_option maxHeartbeats 80000000
set_option maxRecDepth 100000
set_option linter.unusedSimpArgs false

def gafferref01_TakeFrame.l0 : Nat → ByteArray → Int → Int → Option (ByteArray × ByteArray × Int)
 | 0, _, _, _ => none
 | k + 1, x0, x5, x6 => if x6 < 4 then (if 0 ≤ x6 then (if x6 < (x0.size : Int) then (gafferref01_TakeFrame.l0 k x0 (IntKind.u64.wrap ((IntKind.u64.wrap (256 * x5)) + (IntKind.u64.wrap (bt x0 x6)))) (wrap64 (x6 + 1))) else (none)) else (none)) else (if x5 > 65536 then (some ((⟨#[]⟩ : ByteArray), (⟨#[]⟩ : ByteArray), 2)) else (if (IntKind.u64.wrap ((x0.size : Int))) < (IntKind.u64.wrap (x5 + 6)) then (some ((⟨#[]⟩ : ByteArray), (⟨#[]⟩ : ByteArray), 3)) else (if 6 ≤ (IntKind.u64.wrap (x5 + 6)) then (if (IntKind.u64.wrap (x5 + 6)) ≤ (x0.size : Int) then (if 0 ≤ 4 then (if 4 ≤ (x0.size : Int) then (if (x0.extract 0 4).size + (x0.extract 6 ((IntKind.u64.wrap (x5 + 6)) : Int).toNat).size ≤ 9223372036854775807 then ((gafferref01_check.f k ((x0.extract 0 4) ++ (x0.extract 6 ((IntKind.u64.wrap (x5 + 6)) : Int).toNat))).bind fun t308 => (if 4 ≤ 6 then (if 6 ≤ (x0.size : Int) then (if t308.toList = (x0.extract 4 6).toList then (if 0 ≤ (IntKind.u64.wrap (x5 + 6)) then (some (x0.extract 6 ((IntKind.u64.wrap (x5 + 6)) : Int).toNat, x0.extract ((IntKind.u64.wrap (x5 + 6)) : Int).toNat x0.size, 0)) else (none)) else (some ((⟨#[]⟩ : ByteArray), (⟨#[]⟩ : ByteArray), 4))) else (none)) else (none))) else (none)) else (none)) else (none)) else (none)) else (none))))
def gafferref01_TakeFrame.f (k : Nat) (a0 : ByteArray) : Option (ByteArray × ByteArray × Int) := if (a0.size : Int) < 4 then (some ((⟨#[]⟩ : ByteArray), (⟨#[]⟩ : ByteArray), 3)) else (gafferref01_TakeFrame.l0 k a0 0 0)
theorem gafferref01_TakeFrame.mono_l : ∀ k, (∀ y0 y1 y2, LeO (gafferref01_TakeFrame.l0 k y0 y1 y2) (gafferref01_TakeFrame.l0 (k + 1) y0 y1 y2))
 | 0 => fun _ _ _ r h => by simp [gafferref01_TakeFrame.l0] at h
 | k + 1 => by
  have ih0 := gafferref01_TakeFrame.mono_l k
  ·intro y0 y1 y2
   unfold gafferref01_TakeFrame.l0
   repeat' with_reducible first | apply ih0 | apply gafferref01_check.mono | apply LeO.refl | apply LeO.none | apply LeO.ite | refine LeO.bind ?_ (fun _ => ?_)
theorem gafferref01_TakeFrame.mono : ∀ a0 k, LeO (gafferref01_TakeFrame.f k a0) (gafferref01_TakeFrame.f (k + 1) a0) := by
 intro a0 k
 have ih0 := gafferref01_TakeFrame.mono_l k
 unfold gafferref01_TakeFrame.f
 repeat' with_reducible first | apply ih0 | apply gafferref01_check.mono | apply LeO.refl | apply LeO.none | apply LeO.ite | refine LeO.bind ?_ (fun _ => ?_)
def gafferref01_TakeFrame.T13 : Bool × List (List Nat × List Nat) := (true, [([], []), ([0], [0]), ([], []), ([1, 2], [1, 2]), ([3], [3]), ([], []), ([5], [5]), ([4, 6], [4, 6])])
def gafferref01_TakeFrame.B13 : List Nat := [0, 1, 0, 7, 15, 0, 32, 127]
theorem gafferref01_TakeFrame.tab13 : rtab .any (opsOf Try.f30 13) = gafferref01_TakeFrame.T13 := by kernel_rfl
theorem gafferref01_TakeFrame.bits13 : waitsOk gafferref01_TakeFrame.T13.2 gafferref01_TakeFrame.B13 = true := by kernel_rfl
def gafferref01_TakeFrame.T15 : Bool × List (List Nat × List Nat) := (true, [([], []), ([], []), ([], []), ([2], [2]), ([1, 3], [1, 3]), ([0, 0], [0]), ([4, 5, 0, 1, 2, 3, 4, 5], [4]), ([6, 0, 1, 2, 3, 4, 5, 6], [])])
def gafferref01_TakeFrame.B15 : List Nat := [0, 0, 0, 4, 14, 1, 63, 127]
theorem gafferref01_TakeFrame.tab15 : rtab .any (opsOf Try.f30 15) = gafferref01_TakeFrame.T15 := by kernel_rfl
theorem gafferref01_TakeFrame.bits15 : waitsOk gafferref01_TakeFrame.T15.2 gafferref01_TakeFrame.B15 = true := by kernel_rfl
theorem gafferref01_TakeFrame.calls (k : Nat) (a0 : ByteArray) (r1 : ByteArray) (r2 : ByteArray) (r3 : Int) (w : World) (h : gafferref01_TakeFrame.f k a0 = some (r1, r2, r3)) :
  Calls Try.prog 30 #[.string a0] w fun e w' => e = .returned (.tuple #[.string r1, .string r2, .int .i64 r3]) ∧ Below w.heap.size w w' := by
 have HB := a_ (Below.refl w.heap.size w)
 have H := h
 unfold gafferref01_TakeFrame.f at H
 clear h
 by_cases c2 : (a0.size : Int) < 4
 ·rw [if_pos c2] at H
  have c2b0 : decide ((a0.size : Int) < 4) = true := decide_eq_true c2
  have c2b1 : decide (a0.size < 4) = true := decide_eq_true (by omega)
  clear c2
  simp only [Option.some.injEq, Prod.mk.injEq] at H
  obtain ⟨rfl, rfl, rfl⟩ := H
  go_enter Try.func30, Try.ntmps30
  go_wp2
  go_ret3
  exact ⟨fz_, bl_ HB⟩
 rw [if_neg c2] at H
 have c2b0 : decide ((a0.size : Int) < 4) = false := decide_eq_false c2
 have c2b1 : decide (a0.size < 4) = false := decide_eq_false (by omega)
 clear c2
 have H' := a_ H
 clear H
 go_enter Try.func30, Try.ntmps30
 go_wp2
 go_loopg [5, 6] k (fun kq v5 v6 w' => ∃ (x5_1 : Int) (x6_1 : Int), v5 = .int .u64 x5_1 ∧ v6 = .int .i64 x6_1 ∧ Aside0 (gafferref01_TakeFrame.l0 kq a0 x5_1 x6_1 = some (r1, r2, r3)) ∧ Aside0 (kq ≤ k) ∧ Aside0 (Below w.heap.size w w'))
 case atStart => exact ⟨(0), (0), fz_, fz_, H', ⟨Nat.le_refl _⟩, ⟨bl_ HB⟩⟩
 case round =>
  clear H'
  try clear c2
  try clear c2b0
  try clear c2b1
  try clear p2
  obtain ⟨x5_1, x6_1, rfl, rfl, HA, HK1, HB⟩ := hrel
  cases gk with
  | zero => exact absurd HA.out (by simp [gafferref01_TakeFrame.l0])
  | succ k1 =>
   have H := HA.out
   clear HA
   simp only [gafferref01_TakeFrame.l0] at H
   by_cases c3 : x6_1 < 4
   ·rw [if_pos c3] at H
    have c3b0 : decide (x6_1 < 4) = true := decide_eq_true c3
    clear c3
    by_cases c4 : 0 ≤ x6_1
    rotate_left
    ·rw [if_neg c4] at H
     exact absurd H (by simp)
    rw [if_pos c4] at H
    have c4b0 : decide (0 ≤ x6_1) = true := decide_eq_true c4
    clear c4
    by_cases c5 : x6_1 < (a0.size : Int)
    rotate_left
    ·rw [if_neg c5] at H
     exact absurd H (by simp)
    rw [if_pos c5] at H
    have c5b0 : decide (x6_1 < (a0.size : Int)) = true := decide_eq_true c5
    clear c5
    have H' := a_ H
    clear H
    have p6 : 0 ≤ (x6_1 : Int) := od_
    have q6 : x6_1 < (a0.size : Int) := od_
    have hx6 := bt_at a0 x6_1
    replace p6 := eq_true p6
    replace q6 := eq_true q6
    go_wp2
    go_roundg k1
    case measure => have := HK1.out; omega
    case rel => exact ⟨(IntKind.u64.wrap ((IntKind.u64.wrap (256 * x5_1)) + (IntKind.u64.wrap (bt a0 x6_1)))), (wrap64 (x6_1 + 1)), fz_, fz_, H', ⟨by have := HK1.out; omega⟩, ⟨bl_ HB⟩⟩
   rw [if_neg c3] at H
   have c3b0 : decide (x6_1 < 4) = false := decide_eq_false c3
   clear c3
   by_cases c7 : x5_1 > 65536
   ·rw [if_pos c7] at H
    have c7b0 : decide (65536 < x5_1) = true := decide_eq_true c7
    clear c7
    simp only [Option.some.injEq, Prod.mk.injEq] at H
    obtain ⟨rfl, rfl, rfl⟩ := H
    go_wp2
    go_ret3
    exact ⟨fz_, bl_ HB⟩
   rw [if_neg c7] at H
   have c7b0 : decide (65536 < x5_1) = false := decide_eq_false c7
   clear c7
   by_cases c8 : (IntKind.u64.wrap ((a0.size : Int))) < (IntKind.u64.wrap (x5_1 + 6))
   ·rw [if_pos c8] at H
    have c8b0 : decide ((IntKind.u64.wrap ((a0.size : Int))) < (IntKind.u64.wrap (x5_1 + 6))) = true := decide_eq_true c8
    clear c8
    simp only [Option.some.injEq, Prod.mk.injEq] at H
    obtain ⟨rfl, rfl, rfl⟩ := H
    go_wp2
    go_ret3
    exact ⟨fz_, bl_ HB⟩
   rw [if_neg c8] at H
   have c8b0 : decide ((IntKind.u64.wrap ((a0.size : Int))) < (IntKind.u64.wrap (x5_1 + 6))) = false := decide_eq_false c8
   clear c8
   by_cases c9 : 6 ≤ (IntKind.u64.wrap (x5_1 + 6))
   rotate_left
   ·rw [if_neg c9] at H
    exact absurd H (by simp)


   rw [if_pos c9] at H
   have c9b0 := eq_true c9
   have c9b1 : decide (6 ≤ (IntKind.u64.wrap (x5_1 + 6))) = true := decide_eq_true c9
   clear c9
   by_cases c10 : (IntKind.u64.wrap (x5_1 + 6)) ≤ (a0.size : Int)
   rotate_left
   ·rw [if_neg c10] at H
    exact absurd H (by simp)
   rw [if_pos c10] at H
   have c10b0 := eq_true c10
   have c10b1 : decide ((IntKind.u64.wrap (x5_1 + 6)) ≤ (a0.size : Int)) = true := decide_eq_true c10
   clear c10
   by_cases c11 : 0 ≤ 4
   rotate_left
   ·rw [if_neg c11] at H
    exact absurd H (by simp)
   rw [if_pos c11] at H
   have c11b0 := eq_true c11
   have c11b1 : decide (0 ≤ 4) = true := decide_eq_true c11
   clear c11
   by_cases c12 : 4 ≤ (a0.size : Int)
   rotate_left
   ·rw [if_neg c12] at H
    exact absurd H (by simp)
   rw [if_pos c12] at H
   have c12b0 := eq_true c12
   have c12b1 : decide (4 ≤ (a0.size : Int)) = true := decide_eq_true c12
   clear c12
   by_cases c13 : (a0.extract 0 4).size + (a0.extract 6 ((IntKind.u64.wrap (x5_1 + 6)) : Int).toNat).size ≤ 9223372036854775807
   rotate_left
   ·rw [if_neg c13] at H
    exact absurd H (by simp)
   rw [if_pos c13] at H
   have c13b0 := eq_true c13
   have c13b1 : decide ((a0.extract 0 4).size + (a0.extract 6 ((IntKind.u64.wrap (x5_1 + 6)) : Int).toNat).size ≤ 9223372036854775807) = true := decide_eq_true c13
   try have c13b2 : (9223372036854775807 < (a0.extract 0 4).size + (a0.extract 6 ((IntKind.u64.wrap (x5_1 + 6)) : Int).toNat).size) = False := eq_false (Nat.not_lt.2 c13)
   clear c13
   obtain ⟨t308, A140, H⟩ := Option.bind_eq_some_iff.mp H
   try dsimp only at H
   have A14 := a_ A140
   clear A140
   by_cases c15 : 4 ≤ 6
   rotate_left
   ·rw [if_neg c15] at H
    exact absurd H (by simp)
   rw [if_pos c15] at H
   have c15b0 := eq_true c15
   have c15b1 : decide (4 ≤ 6) = true := decide_eq_true c15
   clear c15
   by_cases c16 : 6 ≤ (a0.size : Int)
   rotate_left
   ·rw [if_neg c16] at H
    exact absurd H (by simp)
   rw [if_pos c16] at H
   have c16b0 := eq_true c16
   have c16b1 : decide (6 ≤ (a0.size : Int)) = true := decide_eq_true c16
   clear c16
   by_cases c17 : t308.toList = (a0.extract 4 6).toList
   rotate_left
   ·rw [if_neg c17] at H
    have c17b0 : (t308.toList == (a0.extract 4 6).toList) = false := beq_eq_false_iff_ne.mpr c17
    have c17b1 : (t308.toList != (a0.extract 4 6).toList) = true := bne_iff_ne.mpr c17
    simp only [Option.some.injEq, Prod.mk.injEq] at H
    obtain ⟨rfl, rfl, rfl⟩ := H
    try go_wp2
    have n0_ := a_ (below_drew1 HB.out)
    clear HB
    have HB := n0_
    clear n0_
    refine start_ (n := 8) (S := fun w' => True) (ds := []) #[false, false, false, false, false, false, false, false] (by kernel_rfl) rfl rfl trivial (fun hHeld => ?_); refine with_tabW gafferref01_TakeFrame.tab13 gafferref01_TakeFrame.bits13 (fun HT_ HW_ => ?_)
    generalize wr.drew = w24 at HB hHeld ⊢
    refine py_ HT_ 0 (some 34) ?_
    refine py_ HT_ 1 (some 35) ?_
    refine py_ HT_ 2 (some 36) ?_
    refine py_ HT_ 3 (some 37) ?_
    refine py_ HT_ 5 (some 39) ?_
    refine py_ HT_ 6 (some 40) ?_
    refine on_ HT_ 4 (some 38) (fun K hK => ?_)
    refine goes_ Try.func47 (by kernel_rfl) rfl #[.string ((a0.extract 0 4) ++ (a0.extract 6 ((IntKind.u64.wrap (x5_1 + 6)) : Int).toNat))] (by rfl) rfl rfl (ar_) ?_
    with_reducible refine (gafferref01_check.calls k1 ((a0.extract 0 4) ++ (a0.extract 6 ((IntKind.u64.wrap (x5_1 + 6)) : Int).toNat)) t308 _ A14.out).mono ?_
    rintro e w25 ⟨rfl, hb⟩
    refine ⟨_, rfl, ?_⟩
    have n0_ := hB_ (bl_ HB) hb
    clear HB
    have HB := n0_
    clear n0_
    (try clear hb)
    (try clear hb2)
    (try clear hk)
    (try clear hi)
    refine hK.out _ _ trivial (fun hHeld => ?_)
    clear hK K
    refine nop_ ?_
    refine py_ HT_ 7 (some 41) ?_
    refine done_ (done_of HT_.out (by kernel_rfl)) ?_
    try go_wp2
    go_ret3
    exact ⟨fz_, bl_ HB⟩
   rw [if_pos c17] at H
   have c17b0 : (t308.toList == (a0.extract 4 6).toList) = true := beq_iff_eq.mpr c17
   have c17b1 : (t308.toList != (a0.extract 4 6).toList) = false := bne_eq_false_iff_eq.mpr c17
   clear c17
   obtain ⟨ji18, hji18⟩ : ∃ j_ : Int, (IntKind.u64.wrap (x5_1 + 6)) = j_ := ⟨_, rfl⟩
   replace H : (if 0 ≤ (ji18) then (some (a0.extract 6 ((ji18) : Int).toNat, a0.extract ((ji18) : Int).toNat a0.size, 0)) else (none)) = some (r1, r2, r3) := by first | (rw [hji18] at H; exact H) | (simp only [hji18] at H ⊢; exact H)
   (try rw [hji18] at c8b0)
   (try rw [hji18] at c9b0)
   (try rw [hji18] at c9b1)
   (try rw [hji18] at c10b0)
   (try rw [hji18] at c10b1)
   (try rw [hji18] at c13b0)
   (try rw [hji18] at c13b1)
   (try rw [hji18] at A14)
   by_cases c19 : 0 ≤ (ji18)
   rotate_left
   ·rw [if_neg c19] at H
    exact absurd H (by simp)
   rw [if_pos c19] at H
   have c19b0 := eq_true c19
   have c19b1 : decide (0 ≤ (ji18)) = true := decide_eq_true c19
   clear c19
   have c20b0 := eq_true (od_ : (ji18) ≤ (a0.size : Int))
   simp only [Option.some.injEq, Prod.mk.injEq] at H
   obtain ⟨rfl, rfl, rfl⟩ := H
   try go_wp2
   have n0_ := a_ (below_drew1 HB.out)
   clear HB
   have HB := n0_
   clear n0_
   refine start_ (n := 8) (S := fun w' => True) (ds := []) #[false, false, false, false, false, false, false, false] (by kernel_rfl) rfl rfl trivial (fun hHeld => ?_); refine with_tabW gafferref01_TakeFrame.tab13 gafferref01_TakeFrame.bits13 (fun HT_ HW_ => ?_)
   generalize wr.drew = w21 at HB hHeld ⊢
   refine py_ HT_ 0 (some 34) ?_
   refine py_ HT_ 1 (some 35) ?_
   refine py_ HT_ 2 (some 36) ?_
   refine py_ HT_ 3 (some 37) ?_
   refine py_ HT_ 5 (some 39) ?_
   refine py_ HT_ 6 (some 40) ?_
   refine on_ HT_ 4 (some 38) (fun K hK => ?_)
   refine goes_ Try.func47 (by kernel_rfl) rfl #[.string ((a0.extract 0 4) ++ (a0.extract 6 ((ji18) : Int).toNat))] (by rfl) rfl rfl (by (try simp only [List.map_toArray, List.map_cons, List.map_nil]); first | done | (simp only [hji18]; rfl) | rfl | (simp only [List.length_drop, List.length_take]; rfl)) ?_
   with_reducible refine (gafferref01_check.calls k1 ((a0.extract 0 4) ++ (a0.extract 6 ((ji18) : Int).toNat)) t308 _ A14.out).mono ?_
   rintro e w22 ⟨rfl, hb⟩
   refine ⟨_, rfl, ?_⟩
   have n0_ := hB_ (bl_ HB) hb
   clear HB
   have HB := n0_
   clear n0_
   (try clear hb)
   (try clear hb2)
   (try clear hk)
   (try clear hi)
   refine hK.out _ _ trivial (fun hHeld => ?_)
   clear hK K
   refine nop_ ?_
   refine py_ HT_ 7 (some 41) ?_
   refine done_ (done_of HT_.out (by kernel_rfl)) ?_
   try go_wp2
   have n0_ := a_ (below_drew1 HB.out)
   clear HB
   have HB := n0_
   clear n0_
   refine start_ (n := 8) (S := fun w' => True) (ds := []) #[false, false, false, false, false, false, false, false] (by kernel_rfl) rfl rfl trivial (fun hHeld => ?_); refine with_tabW gafferref01_TakeFrame.tab15 gafferref01_TakeFrame.bits15 (fun HT_ HW_ => ?_)
   generalize w22.drew = w23 at HB hHeld ⊢
   refine py_ HT_ 0 (some 42) ?_
   refine py_ HT_ 1 (some 43) ?_
   refine py_ HT_ 2 (some 44) ?_
   refine py_ HT_ 3 (some 45) ?_
   refine py_ HT_ 4 (some 46) ?_
   refine py_ HT_ 5 (some 2) ?_
   refine py_ HT_ 6 (some 3) ?_
   refine py_ HT_ 7 (some 4) ?_
   refine done_ (done_of HT_.out (by kernel_rfl)) ?_
   try go_wp2
   go_ret3
   exact ⟨by first | rfl | (simp [errW_none, errW_some] <;> rfl) | (simp only [← hji18]; first | rfl | (simp [errW_none, errW_some] <;> rfl)) | (simp [*, errW_none, errW_some] <;> rfl), bl_ HB⟩
mutual
def gafferref01_TakeNumber.j0 : Nat → ByteArray → Int → Bool → Option (Int × ByteArray × Int)
 | 0, _, _, _ => none
 | k + 1, x0, x5, x26 => if x26 = true then (some (0, (⟨#[]⟩ : ByteArray), 4)) else (if (x0.size : Int) < (wrap64 (x5 + 1)) then (some (0, (⟨#[]⟩ : ByteArray), 3)) else (gafferref01_TakeNumber.l0 k x0 x5 0 1))
def gafferref01_TakeNumber.l0 : Nat → ByteArray → Int → Int → Int → Option (Int × ByteArray × Int)
 | 0, _, _, _, _ => none
 | k + 1, x0, x5, x6, x7 => if x7 ≤ x5 then (if 0 ≤ x7 then (if x7 < (x0.size : Int) then (gafferref01_TakeNumber.l0 k x0 x5 (IntKind.u64.wrap ((IntKind.u64.wrap (256 * x6)) + (IntKind.u64.wrap (bt x0 x7)))) (wrap64 (x7 + 1))) else (none)) else (none)) else (if 0 ≤ (wrap64 (x5 + 1)) then (if (wrap64 (x5 + 1)) ≤ (x0.size : Int) then (some (x6, x0.extract ((wrap64 (x5 + 1)) : Int).toNat x0.size, 0)) else (none)) else (none))
end
def gafferref01_TakeNumber.f (k : Nat) (a0 : ByteArray) : Option (Int × ByteArray × Int) := if a0.toList = ([] : List UInt8) then (some (0, (⟨#[]⟩ : ByteArray), 3)) else (if 0 < (a0.size : Int) then (if (wrap64 (bt a0 0)) > 8 then (some (0, (⟨#[]⟩ : ByteArray), 4)) else (if (wrap64 (bt a0 0)) > 0 then (if (a0.size : Int) > 1 then (if 1 < (a0.size : Int) then (gafferref01_TakeNumber.j0 k a0 (wrap64 (bt a0 0)) ((bt a0 1) == 0)) else (none)) else (gafferref01_TakeNumber.j0 k a0 (wrap64 (bt a0 0)) false)) else (gafferref01_TakeNumber.j0 k a0 (wrap64 (bt a0 0)) false))) else (none))
theorem gafferref01_TakeNumber.mono_l : ∀ k, (∀ y0 y1 y2, LeO (gafferref01_TakeNumber.j0 k y0 y1 y2) (gafferref01_TakeNumber.j0 (k + 1) y0 y1 y2)) ∧ (∀ y0 y1 y2 y3, LeO (gafferref01_TakeNumber.l0 k y0 y1 y2 y3) (gafferref01_TakeNumber.l0 (k + 1) y0 y1 y2 y3))
 | 0 => ⟨fun _ _ _ r h => by simp [gafferref01_TakeNumber.j0] at h, fun _ _ _ _ r h => by simp [gafferref01_TakeNumber.l0] at h⟩
 | k + 1 => by
  obtain ⟨ih0, ih1⟩ := gafferref01_TakeNumber.mono_l k
  refine ⟨?_, ?_⟩
  ·intro y0 y1 y2
   unfold gafferref01_TakeNumber.j0
   repeat' with_reducible first | apply ih0 | apply ih1 | apply LeO.refl | apply LeO.none | apply LeO.ite | refine LeO.bind ?_ (fun _ => ?_)
  ·intro y0 y1 y2 y3
   unfold gafferref01_TakeNumber.l0
   repeat' with_reducible first | apply ih0 | apply ih1 | apply LeO.refl | apply LeO.none | apply LeO.ite | refine LeO.bind ?_ (fun _ => ?_)
theorem gafferref01_TakeNumber.mono : ∀ a0 k, LeO (gafferref01_TakeNumber.f k a0) (gafferref01_TakeNumber.f (k + 1) a0) := by
 intro a0 k
 obtain ⟨ih0, ih1⟩ := gafferref01_TakeNumber.mono_l k
 unfold gafferref01_TakeNumber.f
 repeat' with_reducible first | apply ih0 | apply ih1 | apply LeO.refl | apply LeO.none | apply LeO.ite | refine LeO.bind ?_ (fun _ => ?_)
theorem gafferref01_TakeNumber.calls (k : Nat) (a0 : ByteArray) (r1 : Int) (r2 : ByteArray) (r3 : Int) (w : World) (h : gafferref01_TakeNumber.f k a0 = some (r1, r2, r3)) :
  Calls Try.prog 60 #[.string a0] w fun e w' => e = .returned (.tuple #[.int .u64 r1, .string r2, .int .i64 r3]) ∧ Drawn0 w w' := by
 have H := h
 unfold gafferref01_TakeNumber.f at H
 clear h
 by_cases c2 : a0.toList = ([] : List UInt8)
 ·rw [if_pos c2] at H
  have c2b0 : (a0.toList == ([] : List UInt8)) = true := beq_iff_eq.mpr c2
  have c2b1 : (a0.toList != ([] : List UInt8)) = false := bne_eq_false_iff_eq.mpr c2
  clear c2
  simp only [Option.some.injEq, Prod.mk.injEq] at H
  obtain ⟨rfl, rfl, rfl⟩ := H
  go_enter Try.func60, Try.ntmps60
  go_wp2
  repeat (go_quiet (fail); try go_wp2)
  go_ret3
  exact ⟨fz_, dr_⟩
 rw [if_neg c2] at H
 have c2b0 : (a0.toList == ([] : List UInt8)) = false := beq_eq_false_iff_ne.mpr c2
 have c2b1 : (a0.toList != ([] : List UInt8)) = true := bne_iff_ne.mpr c2
 by_cases c3 : 0 < (a0.size : Int)
 rotate_left
 ·rw [if_neg c3] at H
  exact absurd H (by simp)


 rw [if_pos c3] at H
 have c3b0 : decide (0 < (a0.size : Int)) = true := decide_eq_true c3
 have c3b1 : decide (0 < a0.size) = true := decide_eq_true (by omega)
 clear c3
 by_cases c5 : (wrap64 (bt a0 0)) > 8
 ·rw [if_pos c5] at H
  have c5b0 : decide (8 < (wrap64 (bt a0 0))) = true := decide_eq_true c5
  clear c5
  simp only [Option.some.injEq, Prod.mk.injEq] at H
  obtain ⟨rfl, rfl, rfl⟩ := H
  have p4 : 0 ≤ (0 : Int) := (by omega)
  have q4 : 0 < a0.size := (by have : (0 : Int) < (a0.size : Int) := od_; omega)
  have hx4 : ∀ h : 0 < a0.size, ((a0[0]'h).toNat : Int) = bt a0 0 := bt_at a0 0
  clear p4
  have qi4 : (0 < (a0.size : Int)) = True := eq_true od_
  replace q4 := eq_true q4
  go_enter Try.func60, Try.ntmps60
  go_wp2
  repeat (go_quiet (fail); try go_wp2)
  go_ret3
  exact ⟨fz_, dr_⟩
 rw [if_neg c5] at H
 have c5b0 : decide (8 < (wrap64 (bt a0 0))) = false := decide_eq_false c5
 clear c5
 have HC6 := a_ H
 clear H
 have p4 : 0 ≤ (0 : Int) := (by omega)
 have q4 : 0 < a0.size := (by have : (0 : Int) < (a0.size : Int) := od_; omega)
 have hx4 : ∀ h : 0 < a0.size, ((a0[0]'h).toNat : Int) = bt a0 0 := bt_at a0 0
 clear p4
 have qi4 : (0 < (a0.size : Int)) = True := eq_true od_
 replace q4 := eq_true q4
 go_enter Try.func60, Try.ntmps60
 go_upto_region 6 with (fail)
 repeat (go_quiet (fail); go_upto_region 6 with (fail))
 go_cut [26] (fun v26 wc => ∃ (kq : Nat) (x26_5 : Bool), v26 = .bool x26_5 ∧ Aside0 (gafferref01_TakeNumber.j0 kq a0 (wrap64 (bt a0 0)) x26_5 = some (r1, r2, r3)) ∧ Aside0 (kq ≤ k) ∧ Drawn0 w wc)
 case first =>
  have H := HC6.out
  clear HC6
  by_cases c7 : (wrap64 (bt a0 0)) > 0
  rotate_left
  ·rw [if_neg c7] at H
   have c7b0 : decide (0 < (wrap64 (bt a0 0))) = false := decide_eq_false c7
   clear c7
   (first | rw [c7b0] | (simp only [i64_w, i32_w]; rw [c7b0]) | skip)
   have H' := a_ H
   clear H
   go_wp2
   repeat (go_quiet (fail); try go_wp2)
   go_meet
   case rel => exact ⟨_, (false), fz_, H', ⟨by first | omega | exact Nat.le_refl _⟩, dr_⟩
  rw [if_pos c7] at H
  have c7b0 : decide (0 < (wrap64 (bt a0 0))) = true := decide_eq_true c7
  clear c7
  (first | rw [c7b0] | (simp only [i64_w, i32_w]; rw [c7b0]) | skip)
  by_cases c8 : (a0.size : Int) > 1
  rotate_left
  ·rw [if_neg c8] at H
   have c8b0 : decide (1 < (a0.size : Int)) = false := decide_eq_false c8
   have c8b1 : decide (1 < a0.size) = false := decide_eq_false (by omega)
   clear c8
   have H' := a_ H
   clear H
   go_wp2
   repeat (go_quiet (fail); try go_wp2)
   go_meet
   case rel => exact ⟨_, (false), fz_, H', ⟨by first | omega | exact Nat.le_refl _⟩, dr_⟩
  rw [if_pos c8] at H
  have c8b0 : decide (1 < (a0.size : Int)) = true := decide_eq_true c8
  have c8b1 : decide (1 < a0.size) = true := decide_eq_true (by omega)
  clear c8
  by_cases c9 : 1 < (a0.size : Int)
  rotate_left
  ·rw [if_neg c9] at H
   exact absurd H (by simp)
  rw [if_pos c9] at H
  have c9b0 : decide (1 < (a0.size : Int)) = true := decide_eq_true c9
  have c9b1 : decide (1 < a0.size) = true := decide_eq_true (by omega)
  clear c9
  have H' := a_ H
  clear H
  have p10 : 0 ≤ (1 : Int) := (by omega)
  have q10 : 1 < a0.size := (by have : (1 : Int) < (a0.size : Int) := od_; omega)
  have hx10 : ∀ h : 1 < a0.size, ((a0[1]'h).toNat : Int) = bt a0 1 := bt_at a0 1
  clear p10
  have qi10 : (1 < (a0.size : Int)) = True := eq_true od_
  replace q10 := eq_true q10
  go_wp2
  repeat (go_quiet (fail); try go_wp2)
  go_meet
  case rel => exact ⟨_, (((bt a0 1) == 0)), fz_, H', ⟨by first | omega | exact Nat.le_refl _⟩, dr_⟩
 case rest =>
  clear HC6
  try clear p1
  try clear q1
  try clear hx1
  try clear qi1
  try clear c2
  try clear c2b0
  try clear c2b1
  try clear p2
  try clear c3
  try clear c3b0
  try clear c3b1
  try clear p4
  try clear q4
  try clear hx4
  try clear qi4
  try clear c5
  try clear c5b0
  try clear c6
  try clear p6
  try clear c7
  try clear c7b0
  try clear c8
  try clear c8b0
  try clear c8b1
  try clear c9
  try clear c9b0
  try clear c9b1
  try clear p10
  try clear q10
  try clear hx10
  try clear qi10
  try clear p10
  try clear p4
  try clear q10
  try clear q4
  obtain ⟨kq, x26_5, rfl, HA, HJ5, ⟨mc5, rfl⟩⟩ := hcut
  cases kq with
  | zero => exact absurd HA.out (by simp [gafferref01_TakeNumber.j0])
  | succ kj5 =>
   have H := HA.out
   clear HA
   simp only [gafferref01_TakeNumber.j0] at H
   by_cases c11 : x26_5 = true
   ·subst c11
    have H1 : (some (0, (⟨#[]⟩ : ByteArray), 4)) = some (r1, r2, r3) := by rw [if_pos rfl] at H; exact H
    clear H
    have H := H1
    clear H1
    simp only [Option.some.injEq, Prod.mk.injEq] at H
    obtain ⟨rfl, rfl, rfl⟩ := H
    go_wp2
    repeat (go_quiet (fail); try go_wp2)
    go_ret3
    exact ⟨fz_, dr_⟩
   replace c11 := Bool.eq_false_iff.mpr c11
   subst c11
   have H1 : (if (a0.size : Int) < (wrap64 ((wrap64 (bt a0 0)) + 1)) then (some (0, (⟨#[]⟩ : ByteArray), 3)) else (gafferref01_TakeNumber.l0 kj5 a0 (wrap64 (bt a0 0)) 0 1)) = some (r1, r2, r3) := by rw [if_neg (show ¬ (false = true) by decide)] at H; exact H
   clear H
   have H := H1
   clear H1
   by_cases c12 : (a0.size : Int) < (wrap64 ((wrap64 (bt a0 0)) + 1))
   ·rw [if_pos c12] at H
    have c12b0 : decide ((a0.size : Int) < (wrap64 ((wrap64 (bt a0 0)) + 1))) = true := decide_eq_true c12
    clear c12
    simp only [Option.some.injEq, Prod.mk.injEq] at H
    obtain ⟨rfl, rfl, rfl⟩ := H
    go_wp2
    repeat (go_quiet (fail); try go_wp2)
    go_ret3
    exact ⟨fz_, dr_⟩
   rw [if_neg c12] at H
   have c12b0 : decide ((a0.size : Int) < (wrap64 ((wrap64 (bt a0 0)) + 1))) = false := decide_eq_false c12
   clear c12
   have H' := a_ H
   clear H
   go_wp2
   repeat (go_quiet (fail); try go_wp2)
   go_loopg [6, 7] kj5 (fun kq v6 v7 w' => ∃ (x6_2 : Int) (x7_2 : Int), v6 = .int .u64 x6_2 ∧ v7 = .int .i64 x7_2 ∧ Aside0 (gafferref01_TakeNumber.l0 kq a0 (wrap64 (bt a0 0)) x6_2 x7_2 = some (r1, r2, r3)) ∧ Aside0 (kq ≤ kj5) ∧ Drawn0 w w')
   case atStart => exact ⟨(0), (1), fz_, fz_, H', ⟨Nat.le_refl _⟩, dr_⟩
   case round =>
    clear H'
    try clear c1
    try clear p1
    try clear q1
    try clear hx1
    try clear qi1
    try clear c2
    try clear c2b0
    try clear c2b1
    try clear p2
    try clear c3
    try clear c3b0
    try clear c3b1
    try clear p4
    try clear q4
    try clear hx4
    try clear qi4
    try clear c5
    try clear c5b0
    try clear c6
    try clear p6
    try clear c7
    try clear c7b0
    try clear c8
    try clear c8b0
    try clear c8b1
    try clear c9
    try clear c9b0
    try clear c9b1
    try clear p10
    try clear q10
    try clear hx10
    try clear qi10
    try clear c11
    try clear c12
    try clear c12b0
    try clear p1
    try clear p10
    try clear p2
    try clear p4
    try clear p6
    try clear q1
    try clear q10
    try clear q4
    obtain ⟨x6_2, x7_2, rfl, rfl, HA, HK2, ⟨m2, rfl⟩⟩ := hrel
    cases gk with
    | zero => exact absurd HA.out (by simp [gafferref01_TakeNumber.l0])
    | succ k2 =>
     have H := HA.out
     clear HA
     simp only [gafferref01_TakeNumber.l0] at H
     by_cases c13 : x7_2 ≤ (wrap64 (bt a0 0))
     ·rw [if_pos c13] at H
      have c13b0 : decide (x7_2 ≤ (wrap64 (bt a0 0))) = true := decide_eq_true c13
      clear c13
      by_cases c14 : 0 ≤ x7_2
      rotate_left
      ·rw [if_neg c14] at H
       exact absurd H (by simp)
      rw [if_pos c14] at H
      have c14b0 : decide (0 ≤ x7_2) = true := decide_eq_true c14
      clear c14
      by_cases c15 : x7_2 < (a0.size : Int)
      rotate_left
      ·rw [if_neg c15] at H
       exact absurd H (by simp)
      rw [if_pos c15] at H
      have c15b0 : decide (x7_2 < (a0.size : Int)) = true := decide_eq_true c15
      clear c15
      have H' := a_ H
      clear H
      have p16 : 0 ≤ (x7_2 : Int) := od_
      have q16 : x7_2 < (a0.size : Int) := od_
      have hx16 := bt_at a0 x7_2
      replace p16 := eq_true p16
      replace q16 := eq_true q16
      go_wp2
      repeat (go_quiet (fail); try go_wp2)
      go_roundg k2
      case measure => have := HJ5.out; have := HK2.out; omega
      case rel => exact ⟨(IntKind.u64.wrap ((IntKind.u64.wrap (256 * x6_2)) + (IntKind.u64.wrap (bt a0 x7_2)))), (wrap64 (x7_2 + 1)), fz_, fz_, H', ⟨by have := HJ5.out; have := HK2.out; omega⟩, dr_⟩
     rw [if_neg c13] at H
     have c13b0 : decide (x7_2 ≤ (wrap64 (bt a0 0))) = false := decide_eq_false c13
     clear c13
     obtain ⟨ji17, hji17⟩ : ∃ j_ : Int, (wrap64 ((wrap64 (bt a0 0)) + 1)) = j_ := ⟨_, rfl⟩
     replace H : (if 0 ≤ (ji17) then (if (ji17) ≤ (a0.size : Int) then (some (x6_2, a0.extract ((ji17) : Int).toNat a0.size, 0)) else (none)) else (none)) = some (r1, r2, r3) := by first | (rw [hji17] at H; exact H) | (simp only [hji17] at H ⊢; exact H)
     (try rw [hji17] at c12b0)
     have hji17w : (IntKind.i64.wrap ((wrap64 (bt a0 0)) + 1)) = ji17 := (i64_w _).trans hji17
     by_cases c18 : 0 ≤ (ji17)
     rotate_left
     ·rw [if_neg c18] at H
      exact absurd H (by simp)
     rw [if_pos c18] at H
     have c18b0 := eq_true c18
     have c18b1 : decide (0 ≤ (ji17)) = true := decide_eq_true c18
     clear c18
     by_cases c19 : (ji17) ≤ (a0.size : Int)
     rotate_left
     ·rw [if_neg c19] at H
      exact absurd H (by simp)
     rw [if_pos c19] at H
     have c19b0 := eq_true c19
     have c19b1 : decide ((ji17) ≤ (a0.size : Int)) = true := decide_eq_true c19
     clear c19
     simp only [Option.some.injEq, Prod.mk.injEq] at H
     obtain ⟨rfl, rfl, rfl⟩ := H
     go_wp2
     repeat (go_quiet (fail); try go_wp2)
     go_ret3
     exact ⟨by first | rfl | (simp; done) | (simp only [← hji17] <;> (first | rfl | simp)) | (simp [*]; done), dr_⟩
end Go.Proofs.Ytcdibodjkdoknaa.PM
