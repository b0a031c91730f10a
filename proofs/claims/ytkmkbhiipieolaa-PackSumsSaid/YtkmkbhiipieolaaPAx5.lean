-- Written for this claim by a program of this session. Lean checks it.
import Derived.Test.YtkmkbhiipieolaaPAx0
import Derived.Test.YtkmkbhiipieolaaPAx4
namespace Go.Proofs.Ytkmkbhiipieolaa.PA
open Go.RowKit Go.Proofs.YtkmkbhiipieolaaW.PrintWords Go.Proofs.YtkmkbhiipieolaaW.PrintLast Go.Proofs.YtkmkbhiipieolaaW.PrintMore
attribute [local go_sem] max2_int min2_int max_two min_two max_three min_three max_four min_four   -- for this text's walks alone
set_option linter.unusedVariables false
set_option linter.unusedSimpArgs false

/-! ### gafferref01_TakeFrame: function 28 -/
def gafferref01_TakeFrame.l0 : Nat → ByteArray → Int → Int → Option (ByteArray × ByteArray × Int)
  | 0, _, _, _ => none
  | k + 1, x0, x5, x6 => if x6 < 4 then (if 0 ≤ x6 then (if x6 < (x0.size : Int) then (gafferref01_TakeFrame.l0 k x0 (IntKind.u64.wrap ((IntKind.u64.wrap (256 * x5)) + (IntKind.u64.wrap (bt x0 x6)))) (wrap64 (x6 + 1))) else (none)) else (none)) else (if x5 > 65536 then (some ((⟨#[]⟩ : ByteArray), (⟨#[]⟩ : ByteArray), 2)) else (if (IntKind.u64.wrap ((x0.size : Int))) < (IntKind.u64.wrap (x5 + 6)) then (some ((⟨#[]⟩ : ByteArray), (⟨#[]⟩ : ByteArray), 3)) else (if 6 ≤ (IntKind.u64.wrap (x5 + 6)) then (if (IntKind.u64.wrap (x5 + 6)) ≤ (x0.size : Int) then (if 0 ≤ 4 then (if 4 ≤ (x0.size : Int) then (if (x0.extract 0 4).size + (x0.extract 6 ((IntKind.u64.wrap (x5 + 6)) : Int).toNat).size ≤ 9223372036854775807 then ((gafferref01_check.f k ((x0.extract 0 4) ++ (x0.extract 6 ((IntKind.u64.wrap (x5 + 6)) : Int).toNat))).bind fun t176 => (if 4 ≤ 6 then (if 6 ≤ (x0.size : Int) then (if t176.toList = (x0.extract 4 6).toList then (if 0 ≤ (IntKind.u64.wrap (x5 + 6)) then (some (x0.extract 6 ((IntKind.u64.wrap (x5 + 6)) : Int).toNat, x0.extract ((IntKind.u64.wrap (x5 + 6)) : Int).toNat x0.size, 0)) else (none)) else (some ((⟨#[]⟩ : ByteArray), (⟨#[]⟩ : ByteArray), 4))) else (none)) else (none))) else (none)) else (none)) else (none)) else (none)) else (none))))
def gafferref01_TakeFrame.f (k : Nat) (a0 : ByteArray) : Option (ByteArray × ByteArray × Int) := if (a0.size : Int) < 4 then (some ((⟨#[]⟩ : ByteArray), (⟨#[]⟩ : ByteArray), 3)) else (gafferref01_TakeFrame.l0 k a0 0 0)
theorem gafferref01_TakeFrame.mono_l : ∀ k, (∀ y0 y1 y2, LeO (gafferref01_TakeFrame.l0 k y0 y1 y2) (gafferref01_TakeFrame.l0 (k + 1) y0 y1 y2))
  | 0 => fun _ _ _ r h => by simp [gafferref01_TakeFrame.l0] at h
  | k + 1 => by
    have ih0 := gafferref01_TakeFrame.mono_l k
    · intro y0 y1 y2
      unfold gafferref01_TakeFrame.l0
      repeat' first
      | (with_reducible exact ih0 _ _ _)
      | (with_reducible exact gafferref01_check.mono _ _)
      | (with_reducible exact LeO.refl _)
      | (with_reducible exact LeO.none _)
      | (with_reducible refine LeO.ite ?_ ?_)
      | (with_reducible refine LeO.bind ?_ (fun _ => ?_))
      | exact ih0 _ _ _
      | exact gafferref01_check.mono _ _
      | exact LeO.none _
      | refine LeO.ite ?_ ?_
      | refine LeO.bind ?_ (fun _ => ?_)
theorem gafferref01_TakeFrame.mono : ∀ a0 k, LeO (gafferref01_TakeFrame.f k a0) (gafferref01_TakeFrame.f (k + 1) a0) := by
  intro a0 k
  have ih0 := gafferref01_TakeFrame.mono_l k
  unfold gafferref01_TakeFrame.f
  repeat' first
      | (with_reducible exact ih0 _ _ _)
      | (with_reducible exact gafferref01_check.mono _ _)
      | (with_reducible exact LeO.refl _)
      | (with_reducible exact LeO.none _)
      | (with_reducible refine LeO.ite ?_ ?_)
      | (with_reducible refine LeO.bind ?_ (fun _ => ?_))
      | exact ih0 _ _ _
      | exact gafferref01_check.mono _ _
      | exact LeO.none _
      | refine LeO.ite ?_ ?_
      | refine LeO.bind ?_ (fun _ => ?_)
def gafferref01_TakeFrame.T13 : Bool × List (List Nat × List Nat) := (true, [([], []), ([0], [0]), ([], []), ([1, 2], [1, 2]), ([3], [3]), ([], []), ([5], [5]), ([4, 6], [4, 6])])
def gafferref01_TakeFrame.B13 : List Nat := [0, 1, 0, 7, 15, 0, 32, 127]
theorem gafferref01_TakeFrame.tab13 : rtab .any (opsOf Try.f28 13) = gafferref01_TakeFrame.T13 := by kernel_rfl
theorem gafferref01_TakeFrame.bits13 : waitsOk gafferref01_TakeFrame.T13.2 gafferref01_TakeFrame.B13 = true := by kernel_rfl
def gafferref01_TakeFrame.T15 : Bool × List (List Nat × List Nat) := (true, [([], []), ([], []), ([], []), ([2], [2]), ([1, 3], [1, 3]), ([0, 0], [0]), ([4, 5, 0, 1, 2, 3, 4, 5], [4]), ([6, 0, 1, 2, 3, 4, 5, 6], [])])
def gafferref01_TakeFrame.B15 : List Nat := [0, 0, 0, 4, 14, 1, 63, 127]
theorem gafferref01_TakeFrame.tab15 : rtab .any (opsOf Try.f28 15) = gafferref01_TakeFrame.T15 := by kernel_rfl
theorem gafferref01_TakeFrame.bits15 : waitsOk gafferref01_TakeFrame.T15.2 gafferref01_TakeFrame.B15 = true := by kernel_rfl
set_option maxHeartbeats 8000000 in
set_option maxRecDepth 100000 in
theorem gafferref01_TakeFrame.calls (k : Nat) (a0 : ByteArray) (r1 : ByteArray) (r2 : ByteArray) (r3 : Int) (w : World) (h : gafferref01_TakeFrame.f k a0 = some (r1, r2, r3)) :
    Calls Try.prog 28 #[.string a0] w fun e w' => e = .returned (.tuple #[.string r1, .string r2, .int .i64 r3]) ∧ Below w.heap.size w w' := by
  have HB := Aside0.mk (Below.refl w.heap.size w)
  have H : (if (a0.size : Int) < 4 then (some ((⟨#[]⟩ : ByteArray), (⟨#[]⟩ : ByteArray), 3)) else (gafferref01_TakeFrame.l0 k a0 0 0)) = some (r1, r2, r3) := h
  clear h
  by_cases c2 : (a0.size : Int) < 4
  · rw [if_pos c2] at H
    have c2b0 : decide ((a0.size : Int) < 4) = true := decide_eq_true c2
    have c2b1 : decide (a0.size < 4) = true := decide_eq_true (by omega)
    clear c2
    simp only [Option.some.injEq, Prod.mk.injEq] at H
    obtain ⟨rfl, rfl, rfl⟩ := H
    go_enter Try.func28, Try.ntmps28
    go_wp2
    go_ret3
    exact ⟨by first | rfl | (simp [errW_none, errW_some] <;> rfl) | (simp [*, errW_none, errW_some] <;> rfl), by repeat (first | (with_reducible first | exact HB.out | apply below_alloc | apply pw_below_drewN | apply below_drew1) | exact HB.out)⟩
  · rw [if_neg c2] at H
    have c2b0 : decide ((a0.size : Int) < 4) = false := decide_eq_false c2
    have c2b1 : decide (a0.size < 4) = false := decide_eq_false (by omega)
    clear c2
    have H' := Aside0.mk H
    clear H
    go_enter Try.func28, Try.ntmps28
    go_wp2
    go_loopg [5, 6] k (fun kq v5 v6 w' => ∃ (x5_1 : Int) (x6_1 : Int), v5 = .int .u64 x5_1 ∧ v6 = .int .i64 x6_1 ∧ Aside0 (gafferref01_TakeFrame.l0 kq a0 x5_1 x6_1 = some (r1, r2, r3)) ∧ Aside0 (kq ≤ k) ∧ Aside0 (Below w.heap.size w w'))
    case atStart => exact ⟨(0), (0), (by first | rfl | (simp; done) | (simp [*]; done)), (by first | rfl | (simp; done) | (simp [*]; done)), H', ⟨Nat.le_refl _⟩, ⟨by repeat (first | (with_reducible first | exact HB.out | apply below_alloc | apply pw_below_drewN | apply below_drew1) | exact HB.out)⟩⟩
    case round =>
      clear H'
      try clear c2
      try clear c2b0
      try clear c2b1
      try clear p2
      obtain ⟨x5_1, x6_1, rfl, rfl, HA, HK1, HB⟩ := hrel
      cases gk with
      | zero => exact absurd HA.out (by simp [gafferref01_TakeFrame.l0])
      | succ k1 =>
        have H := HA.out
        clear HA
        simp only [gafferref01_TakeFrame.l0] at H
        by_cases c3 : x6_1 < 4
        · rw [if_pos c3] at H
          have c3b0 : decide (x6_1 < 4) = true := decide_eq_true c3
          clear c3
          by_cases c4 : 0 ≤ x6_1
          · rw [if_pos c4] at H
            have c4b0 : decide (0 ≤ x6_1) = true := decide_eq_true c4
            clear c4
            by_cases c5 : x6_1 < (a0.size : Int)
            · rw [if_pos c5] at H
              have c5b0 : decide (x6_1 < (a0.size : Int)) = true := decide_eq_true c5
              clear c5
              have H' := Aside0.mk H
              clear H
              have p6 : 0 ≤ (x6_1 : Int) := of_decide_eq_true (by first | (with_reducible assumption) | assumption)
              have q6 : x6_1 < (a0.size : Int) := of_decide_eq_true (by first | (with_reducible assumption) | assumption)
              have hx6 := bt_at a0 x6_1
              replace p6 := eq_true p6
              replace q6 := eq_true q6
              go_wp2
              go_roundg k1
              case measure => have := HK1.out; omega
              case rel => exact ⟨(IntKind.u64.wrap ((IntKind.u64.wrap (256 * x5_1)) + (IntKind.u64.wrap (bt a0 x6_1)))), (wrap64 (x6_1 + 1)), (by first | rfl | (simp; done) | (simp [*]; done)), (by first | rfl | (simp; done) | (simp [*]; done)), H', ⟨by have := HK1.out; omega⟩, ⟨by repeat (first | (with_reducible first | exact HB.out | apply below_alloc | apply pw_below_drewN | apply below_drew1) | exact HB.out)⟩⟩
            · rw [if_neg c5] at H
              exact absurd H (by simp)
          · rw [if_neg c4] at H
            exact absurd H (by simp)
        · rw [if_neg c3] at H
          have c3b0 : decide (x6_1 < 4) = false := decide_eq_false c3
          clear c3
          by_cases c7 : x5_1 > 65536
          · rw [if_pos c7] at H
            have c7b0 : decide (65536 < x5_1) = true := decide_eq_true c7
            clear c7
            simp only [Option.some.injEq, Prod.mk.injEq] at H
            obtain ⟨rfl, rfl, rfl⟩ := H
            go_wp2
            go_ret3
            exact ⟨by first | rfl | (simp [errW_none, errW_some] <;> rfl) | (simp [*, errW_none, errW_some] <;> rfl), by repeat (first | (with_reducible first | exact HB.out | apply below_alloc | apply pw_below_drewN | apply below_drew1) | exact HB.out)⟩
          · rw [if_neg c7] at H
            have c7b0 : decide (65536 < x5_1) = false := decide_eq_false c7
            clear c7
            by_cases c8 : (IntKind.u64.wrap ((a0.size : Int))) < (IntKind.u64.wrap (x5_1 + 6))
            · rw [if_pos c8] at H
              have c8b0 : decide ((IntKind.u64.wrap ((a0.size : Int))) < (IntKind.u64.wrap (x5_1 + 6))) = true := decide_eq_true c8
              clear c8
              simp only [Option.some.injEq, Prod.mk.injEq] at H
              obtain ⟨rfl, rfl, rfl⟩ := H
              go_wp2
              go_ret3
              exact ⟨by first | rfl | (simp [errW_none, errW_some] <;> rfl) | (simp [*, errW_none, errW_some] <;> rfl), by repeat (first | (with_reducible first | exact HB.out | apply below_alloc | apply pw_below_drewN | apply below_drew1) | exact HB.out)⟩
            · rw [if_neg c8] at H
              have c8b0 : decide ((IntKind.u64.wrap ((a0.size : Int))) < (IntKind.u64.wrap (x5_1 + 6))) = false := decide_eq_false c8
              clear c8
              by_cases c9 : 6 ≤ (IntKind.u64.wrap (x5_1 + 6))
              · rw [if_pos c9] at H
                have c9b0 := eq_true c9
                have c9b1 : decide (6 ≤ (IntKind.u64.wrap (x5_1 + 6))) = true := decide_eq_true c9
                clear c9
                by_cases c10 : (IntKind.u64.wrap (x5_1 + 6)) ≤ (a0.size : Int)
                · rw [if_pos c10] at H
                  have c10b0 := eq_true c10
                  have c10b1 : decide ((IntKind.u64.wrap (x5_1 + 6)) ≤ (a0.size : Int)) = true := decide_eq_true c10
                  clear c10
                  by_cases c11 : 0 ≤ 4
                  · rw [if_pos c11] at H
                    have c11b0 := eq_true c11
                    have c11b1 : decide (0 ≤ 4) = true := decide_eq_true c11
                    clear c11
                    by_cases c12 : 4 ≤ (a0.size : Int)
                    · rw [if_pos c12] at H
                      have c12b0 := eq_true c12
                      have c12b1 : decide (4 ≤ (a0.size : Int)) = true := decide_eq_true c12
                      clear c12
                      by_cases c13 : (a0.extract 0 4).size + (a0.extract 6 ((IntKind.u64.wrap (x5_1 + 6)) : Int).toNat).size ≤ 9223372036854775807
                      · rw [if_pos c13] at H
                        have c13b0 := eq_true c13
                        have c13b1 : decide ((a0.extract 0 4).size + (a0.extract 6 ((IntKind.u64.wrap (x5_1 + 6)) : Int).toNat).size ≤ 9223372036854775807) = true := decide_eq_true c13
                        try have c13b2 : (9223372036854775807 < (a0.extract 0 4).size + (a0.extract 6 ((IntKind.u64.wrap (x5_1 + 6)) : Int).toNat).size) = False := eq_false (Nat.not_lt.2 c13)
                        clear c13
                        replace H := Option.bind_eq_some_iff.mp H
                        obtain ⟨t176, A140, H⟩ := H
                        replace H : (if 4 ≤ 6 then (if 6 ≤ (a0.size : Int) then (if t176.toList = (a0.extract 4 6).toList then (if 0 ≤ (IntKind.u64.wrap (x5_1 + 6)) then (some (a0.extract 6 ((IntKind.u64.wrap (x5_1 + 6)) : Int).toNat, a0.extract ((IntKind.u64.wrap (x5_1 + 6)) : Int).toNat a0.size, 0)) else (none)) else (some ((⟨#[]⟩ : ByteArray), (⟨#[]⟩ : ByteArray), 4))) else (none)) else (none)) = some (r1, r2, r3) := H
                        have A14 := Aside0.mk A140
                        clear A140
                        by_cases c15 : 4 ≤ 6
                        · rw [if_pos c15] at H
                          have c15b0 := eq_true c15
                          have c15b1 : decide (4 ≤ 6) = true := decide_eq_true c15
                          clear c15
                          by_cases c16 : 6 ≤ (a0.size : Int)
                          · rw [if_pos c16] at H
                            have c16b0 := eq_true c16
                            have c16b1 : decide (6 ≤ (a0.size : Int)) = true := decide_eq_true c16
                            clear c16
                            by_cases c17 : t176.toList = (a0.extract 4 6).toList
                            · rw [if_pos c17] at H
                              have c17b0 : (t176.toList == (a0.extract 4 6).toList) = true := beq_iff_eq.mpr c17
                              have c17b1 : (t176.toList != (a0.extract 4 6).toList) = false := bne_eq_false_iff_eq.mpr c17
                              clear c17
                              obtain ⟨ji18, hji18⟩ : ∃ j_ : Int, (IntKind.u64.wrap (x5_1 + 6)) = j_ := ⟨_, rfl⟩
                              replace H : (if 0 ≤ (ji18) then (some (a0.extract 6 ((ji18) : Int).toNat, a0.extract ((ji18) : Int).toNat a0.size, 0)) else (none)) = some (r1, r2, r3) := by first | (rw [hji18] at H; exact H) | (simp only [hji18] at H ⊢; exact H)
                              (try rw [hji18] at c8b0)
                              (try rw [hji18] at c9b0)
                              (try rw [hji18] at c9b1)
                              (try rw [hji18] at c10b0)
                              (try rw [hji18] at c10b1)
                              (try rw [hji18] at c13b0)
                              (try rw [hji18] at c13b1)
                              (try rw [hji18] at A14)
                              by_cases c19 : 0 ≤ (ji18)
                              · rw [if_pos c19] at H
                                have c19b0 := eq_true c19
                                have c19b1 : decide (0 ≤ (ji18)) = true := decide_eq_true c19
                                clear c19
                                have c20b0 := eq_true (of_decide_eq_true (by first | (with_reducible assumption) | assumption) : (ji18) ≤ (a0.size : Int))
                                simp only [Option.some.injEq, Prod.mk.injEq] at H
                                obtain ⟨rfl, rfl, rfl⟩ := H
                                try go_wp2
                                have n0_ := Aside0.mk (below_drew1 HB.out)
                                clear HB
                                have HB := n0_
                                clear n0_
                                refine start_ (n := 8) (S := fun w' => True) (ds := []) #[false, false, false, false, false, false, false, false] (by kernel_rfl) rfl rfl trivial (fun hHeld => ?_); refine with_tabW gafferref01_TakeFrame.tab13 gafferref01_TakeFrame.bits13 (fun HT_ HW_ => ?_)
                                generalize wr.drew = w21 at HB hHeld ⊢
                                refine pure_ (i := 0) (N := some 34) (v := ?_) (a' := ?_) #[true, false, false, false, false, false, false, false] rfl rfl (any_of HT_.out (by kernel_rfl)) (fun _ _ _ h => h) (Or.inl ⟨by rfl, ?_⟩) ?_ ?_
                                rotate_left
                                · intro w'
                                  go_simp
                                  first | (with_reducible rfl) | (rw [if_neg (by (try have o0_ := of_decide_eq_true c2b0); (try have o1_ := of_decide_eq_true c2b1); (try have o2_ := of_decide_eq_false c2b0); (try have o3_ := of_decide_eq_false c2b1); (try have o4_ := of_decide_eq_true c3b0); (try have o5_ := of_decide_eq_false c3b0); (try have o6_ := of_decide_eq_true c7b0); (try have o7_ := of_decide_eq_false c7b0); (try have o8_ := of_decide_eq_true c8b0); (try have o9_ := of_decide_eq_false c8b0); (try have o10_ := of_decide_eq_true c9b1); (try have o11_ := of_decide_eq_true c10b1); (try have o12_ := of_decide_eq_true c11b1); (try have o13_ := of_decide_eq_true c12b1); (try have o14_ := of_decide_eq_true c13b1); (try have o15_ := of_decide_eq_true c15b1); (try have o16_ := of_decide_eq_true c16b1); (try have o17_ := of_decide_eq_true c19b1); (try simp only [ByteArray.size_extract, ByteArray.size_append] at o0_); (try simp only [ByteArray.size_extract, ByteArray.size_append] at o1_); (try simp only [ByteArray.size_extract, ByteArray.size_append] at o2_); (try simp only [ByteArray.size_extract, ByteArray.size_append] at o3_); (try simp only [ByteArray.size_extract, ByteArray.size_append] at o4_); (try simp only [ByteArray.size_extract, ByteArray.size_append] at o5_); (try simp only [ByteArray.size_extract, ByteArray.size_append] at o6_); (try simp only [ByteArray.size_extract, ByteArray.size_append] at o7_); (try simp only [ByteArray.size_extract, ByteArray.size_append] at o8_); (try simp only [ByteArray.size_extract, ByteArray.size_append] at o9_); (try simp only [ByteArray.size_extract, ByteArray.size_append] at o10_); (try simp only [ByteArray.size_extract, ByteArray.size_append] at o11_); (try simp only [ByteArray.size_extract, ByteArray.size_append] at o12_); (try simp only [ByteArray.size_extract, ByteArray.size_append] at o13_); (try simp only [ByteArray.size_extract, ByteArray.size_append] at o14_); (try simp only [ByteArray.size_extract, ByteArray.size_append] at o15_); (try simp only [ByteArray.size_extract, ByteArray.size_append] at o16_); (try simp only [ByteArray.size_extract, ByteArray.size_append] at o17_); omega)]; try with_reducible rfl)
                                rotate_left
                                · simp only [Act.put, List.setIfInBounds_toArray, List.set_cons_zero, List.set_cons_succ, i64_w, i32_w]
                                  rfl
                                refine pure_ (i := 1) (N := some 35) (v := ?_) (a' := ?_) #[true, true, false, false, false, false, false, false] rfl rfl (any_of HT_.out (by kernel_rfl)) (fun _ _ _ h => h) (Or.inl ⟨by rfl, ?_⟩) ?_ ?_
                                rotate_left
                                · intro w'
                                  go_simp
                                  first | (with_reducible rfl) | (rw [if_neg (by (try have o0_ := of_decide_eq_true c2b0); (try have o1_ := of_decide_eq_true c2b1); (try have o2_ := of_decide_eq_false c2b0); (try have o3_ := of_decide_eq_false c2b1); (try have o4_ := of_decide_eq_true c3b0); (try have o5_ := of_decide_eq_false c3b0); (try have o6_ := of_decide_eq_true c7b0); (try have o7_ := of_decide_eq_false c7b0); (try have o8_ := of_decide_eq_true c8b0); (try have o9_ := of_decide_eq_false c8b0); (try have o10_ := of_decide_eq_true c9b1); (try have o11_ := of_decide_eq_true c10b1); (try have o12_ := of_decide_eq_true c11b1); (try have o13_ := of_decide_eq_true c12b1); (try have o14_ := of_decide_eq_true c13b1); (try have o15_ := of_decide_eq_true c15b1); (try have o16_ := of_decide_eq_true c16b1); (try have o17_ := of_decide_eq_true c19b1); (try simp only [ByteArray.size_extract, ByteArray.size_append] at o0_); (try simp only [ByteArray.size_extract, ByteArray.size_append] at o1_); (try simp only [ByteArray.size_extract, ByteArray.size_append] at o2_); (try simp only [ByteArray.size_extract, ByteArray.size_append] at o3_); (try simp only [ByteArray.size_extract, ByteArray.size_append] at o4_); (try simp only [ByteArray.size_extract, ByteArray.size_append] at o5_); (try simp only [ByteArray.size_extract, ByteArray.size_append] at o6_); (try simp only [ByteArray.size_extract, ByteArray.size_append] at o7_); (try simp only [ByteArray.size_extract, ByteArray.size_append] at o8_); (try simp only [ByteArray.size_extract, ByteArray.size_append] at o9_); (try simp only [ByteArray.size_extract, ByteArray.size_append] at o10_); (try simp only [ByteArray.size_extract, ByteArray.size_append] at o11_); (try simp only [ByteArray.size_extract, ByteArray.size_append] at o12_); (try simp only [ByteArray.size_extract, ByteArray.size_append] at o13_); (try simp only [ByteArray.size_extract, ByteArray.size_append] at o14_); (try simp only [ByteArray.size_extract, ByteArray.size_append] at o15_); (try simp only [ByteArray.size_extract, ByteArray.size_append] at o16_); (try simp only [ByteArray.size_extract, ByteArray.size_append] at o17_); omega)]; try with_reducible rfl)
                                rotate_left
                                · simp only [Act.put, List.setIfInBounds_toArray, List.set_cons_zero, List.set_cons_succ, i64_w, i32_w]
                                  rfl
                                refine pure_ (i := 2) (N := some 36) (v := ?_) (a' := ?_) #[true, true, true, false, false, false, false, false] rfl rfl (any_of HT_.out (by kernel_rfl)) (fun _ _ _ h => h) (Or.inl ⟨by rfl, ?_⟩) ?_ ?_
                                rotate_left
                                · intro w'
                                  go_simp
                                  first | (with_reducible rfl) | (rw [if_neg (by (try have o0_ := of_decide_eq_true c2b0); (try have o1_ := of_decide_eq_true c2b1); (try have o2_ := of_decide_eq_false c2b0); (try have o3_ := of_decide_eq_false c2b1); (try have o4_ := of_decide_eq_true c3b0); (try have o5_ := of_decide_eq_false c3b0); (try have o6_ := of_decide_eq_true c7b0); (try have o7_ := of_decide_eq_false c7b0); (try have o8_ := of_decide_eq_true c8b0); (try have o9_ := of_decide_eq_false c8b0); (try have o10_ := of_decide_eq_true c9b1); (try have o11_ := of_decide_eq_true c10b1); (try have o12_ := of_decide_eq_true c11b1); (try have o13_ := of_decide_eq_true c12b1); (try have o14_ := of_decide_eq_true c13b1); (try have o15_ := of_decide_eq_true c15b1); (try have o16_ := of_decide_eq_true c16b1); (try have o17_ := of_decide_eq_true c19b1); (try simp only [ByteArray.size_extract, ByteArray.size_append] at o0_); (try simp only [ByteArray.size_extract, ByteArray.size_append] at o1_); (try simp only [ByteArray.size_extract, ByteArray.size_append] at o2_); (try simp only [ByteArray.size_extract, ByteArray.size_append] at o3_); (try simp only [ByteArray.size_extract, ByteArray.size_append] at o4_); (try simp only [ByteArray.size_extract, ByteArray.size_append] at o5_); (try simp only [ByteArray.size_extract, ByteArray.size_append] at o6_); (try simp only [ByteArray.size_extract, ByteArray.size_append] at o7_); (try simp only [ByteArray.size_extract, ByteArray.size_append] at o8_); (try simp only [ByteArray.size_extract, ByteArray.size_append] at o9_); (try simp only [ByteArray.size_extract, ByteArray.size_append] at o10_); (try simp only [ByteArray.size_extract, ByteArray.size_append] at o11_); (try simp only [ByteArray.size_extract, ByteArray.size_append] at o12_); (try simp only [ByteArray.size_extract, ByteArray.size_append] at o13_); (try simp only [ByteArray.size_extract, ByteArray.size_append] at o14_); (try simp only [ByteArray.size_extract, ByteArray.size_append] at o15_); (try simp only [ByteArray.size_extract, ByteArray.size_append] at o16_); (try simp only [ByteArray.size_extract, ByteArray.size_append] at o17_); omega)]; try with_reducible rfl)
                                rotate_left
                                · simp only [Act.put, List.setIfInBounds_toArray, List.set_cons_zero, List.set_cons_succ, i64_w, i32_w]
                                  rfl
                                refine pure_ (i := 3) (N := some 37) (v := ?_) (a' := ?_) #[true, true, true, true, false, false, false, false] rfl rfl (any_of HT_.out (by kernel_rfl)) (fun _ _ _ h => h) (Or.inl ⟨by rfl, ?_⟩) ?_ ?_
                                rotate_left
                                · intro w'
                                  go_simp
                                  first | (with_reducible rfl) | (rw [if_neg (by (try have o0_ := of_decide_eq_true c2b0); (try have o1_ := of_decide_eq_true c2b1); (try have o2_ := of_decide_eq_false c2b0); (try have o3_ := of_decide_eq_false c2b1); (try have o4_ := of_decide_eq_true c3b0); (try have o5_ := of_decide_eq_false c3b0); (try have o6_ := of_decide_eq_true c7b0); (try have o7_ := of_decide_eq_false c7b0); (try have o8_ := of_decide_eq_true c8b0); (try have o9_ := of_decide_eq_false c8b0); (try have o10_ := of_decide_eq_true c9b1); (try have o11_ := of_decide_eq_true c10b1); (try have o12_ := of_decide_eq_true c11b1); (try have o13_ := of_decide_eq_true c12b1); (try have o14_ := of_decide_eq_true c13b1); (try have o15_ := of_decide_eq_true c15b1); (try have o16_ := of_decide_eq_true c16b1); (try have o17_ := of_decide_eq_true c19b1); (try simp only [ByteArray.size_extract, ByteArray.size_append] at o0_); (try simp only [ByteArray.size_extract, ByteArray.size_append] at o1_); (try simp only [ByteArray.size_extract, ByteArray.size_append] at o2_); (try simp only [ByteArray.size_extract, ByteArray.size_append] at o3_); (try simp only [ByteArray.size_extract, ByteArray.size_append] at o4_); (try simp only [ByteArray.size_extract, ByteArray.size_append] at o5_); (try simp only [ByteArray.size_extract, ByteArray.size_append] at o6_); (try simp only [ByteArray.size_extract, ByteArray.size_append] at o7_); (try simp only [ByteArray.size_extract, ByteArray.size_append] at o8_); (try simp only [ByteArray.size_extract, ByteArray.size_append] at o9_); (try simp only [ByteArray.size_extract, ByteArray.size_append] at o10_); (try simp only [ByteArray.size_extract, ByteArray.size_append] at o11_); (try simp only [ByteArray.size_extract, ByteArray.size_append] at o12_); (try simp only [ByteArray.size_extract, ByteArray.size_append] at o13_); (try simp only [ByteArray.size_extract, ByteArray.size_append] at o14_); (try simp only [ByteArray.size_extract, ByteArray.size_append] at o15_); (try simp only [ByteArray.size_extract, ByteArray.size_append] at o16_); (try simp only [ByteArray.size_extract, ByteArray.size_append] at o17_); omega)]; try with_reducible rfl)
                                rotate_left
                                · simp only [Act.put, List.setIfInBounds_toArray, List.set_cons_zero, List.set_cons_succ, i64_w, i32_w]
                                  rfl
                                refine pure_ (i := 5) (N := some 39) (v := ?_) (a' := ?_) #[true, true, true, true, false, true, false, false] rfl rfl (any_of HT_.out (by kernel_rfl)) (fun _ _ _ h => h) (Or.inl ⟨by rfl, ?_⟩) ?_ ?_
                                rotate_left
                                · intro w'
                                  go_simp
                                  first | (with_reducible rfl) | (rw [if_neg (by (try have o0_ := of_decide_eq_true c2b0); (try have o1_ := of_decide_eq_true c2b1); (try have o2_ := of_decide_eq_false c2b0); (try have o3_ := of_decide_eq_false c2b1); (try have o4_ := of_decide_eq_true c3b0); (try have o5_ := of_decide_eq_false c3b0); (try have o6_ := of_decide_eq_true c7b0); (try have o7_ := of_decide_eq_false c7b0); (try have o8_ := of_decide_eq_true c8b0); (try have o9_ := of_decide_eq_false c8b0); (try have o10_ := of_decide_eq_true c9b1); (try have o11_ := of_decide_eq_true c10b1); (try have o12_ := of_decide_eq_true c11b1); (try have o13_ := of_decide_eq_true c12b1); (try have o14_ := of_decide_eq_true c13b1); (try have o15_ := of_decide_eq_true c15b1); (try have o16_ := of_decide_eq_true c16b1); (try have o17_ := of_decide_eq_true c19b1); (try simp only [ByteArray.size_extract, ByteArray.size_append] at o0_); (try simp only [ByteArray.size_extract, ByteArray.size_append] at o1_); (try simp only [ByteArray.size_extract, ByteArray.size_append] at o2_); (try simp only [ByteArray.size_extract, ByteArray.size_append] at o3_); (try simp only [ByteArray.size_extract, ByteArray.size_append] at o4_); (try simp only [ByteArray.size_extract, ByteArray.size_append] at o5_); (try simp only [ByteArray.size_extract, ByteArray.size_append] at o6_); (try simp only [ByteArray.size_extract, ByteArray.size_append] at o7_); (try simp only [ByteArray.size_extract, ByteArray.size_append] at o8_); (try simp only [ByteArray.size_extract, ByteArray.size_append] at o9_); (try simp only [ByteArray.size_extract, ByteArray.size_append] at o10_); (try simp only [ByteArray.size_extract, ByteArray.size_append] at o11_); (try simp only [ByteArray.size_extract, ByteArray.size_append] at o12_); (try simp only [ByteArray.size_extract, ByteArray.size_append] at o13_); (try simp only [ByteArray.size_extract, ByteArray.size_append] at o14_); (try simp only [ByteArray.size_extract, ByteArray.size_append] at o15_); (try simp only [ByteArray.size_extract, ByteArray.size_append] at o16_); (try simp only [ByteArray.size_extract, ByteArray.size_append] at o17_); omega)]; try with_reducible rfl)
                                rotate_left
                                · simp only [Act.put, List.setIfInBounds_toArray, List.set_cons_zero, List.set_cons_succ, i64_w, i32_w]
                                  rfl
                                refine pure_ (i := 6) (N := some 40) (v := ?_) (a' := ?_) #[true, true, true, true, false, true, true, false] rfl rfl (any_of HT_.out (by kernel_rfl)) (fun _ _ _ h => h) (Or.inl ⟨by rfl, ?_⟩) ?_ ?_
                                rotate_left
                                · intro w'
                                  go_simp
                                  first | (with_reducible rfl) | (rw [if_neg (by (try have o0_ := of_decide_eq_true c2b0); (try have o1_ := of_decide_eq_true c2b1); (try have o2_ := of_decide_eq_false c2b0); (try have o3_ := of_decide_eq_false c2b1); (try have o4_ := of_decide_eq_true c3b0); (try have o5_ := of_decide_eq_false c3b0); (try have o6_ := of_decide_eq_true c7b0); (try have o7_ := of_decide_eq_false c7b0); (try have o8_ := of_decide_eq_true c8b0); (try have o9_ := of_decide_eq_false c8b0); (try have o10_ := of_decide_eq_true c9b1); (try have o11_ := of_decide_eq_true c10b1); (try have o12_ := of_decide_eq_true c11b1); (try have o13_ := of_decide_eq_true c12b1); (try have o14_ := of_decide_eq_true c13b1); (try have o15_ := of_decide_eq_true c15b1); (try have o16_ := of_decide_eq_true c16b1); (try have o17_ := of_decide_eq_true c19b1); (try simp only [ByteArray.size_extract, ByteArray.size_append] at o0_); (try simp only [ByteArray.size_extract, ByteArray.size_append] at o1_); (try simp only [ByteArray.size_extract, ByteArray.size_append] at o2_); (try simp only [ByteArray.size_extract, ByteArray.size_append] at o3_); (try simp only [ByteArray.size_extract, ByteArray.size_append] at o4_); (try simp only [ByteArray.size_extract, ByteArray.size_append] at o5_); (try simp only [ByteArray.size_extract, ByteArray.size_append] at o6_); (try simp only [ByteArray.size_extract, ByteArray.size_append] at o7_); (try simp only [ByteArray.size_extract, ByteArray.size_append] at o8_); (try simp only [ByteArray.size_extract, ByteArray.size_append] at o9_); (try simp only [ByteArray.size_extract, ByteArray.size_append] at o10_); (try simp only [ByteArray.size_extract, ByteArray.size_append] at o11_); (try simp only [ByteArray.size_extract, ByteArray.size_append] at o12_); (try simp only [ByteArray.size_extract, ByteArray.size_append] at o13_); (try simp only [ByteArray.size_extract, ByteArray.size_append] at o14_); (try simp only [ByteArray.size_extract, ByteArray.size_append] at o15_); (try simp only [ByteArray.size_extract, ByteArray.size_append] at o16_); (try simp only [ByteArray.size_extract, ByteArray.size_append] at o17_); omega)]; try with_reducible rfl)
                                rotate_left
                                · simp only [Act.put, List.setIfInBounds_toArray, List.set_cons_zero, List.set_cons_succ, i64_w, i32_w]
                                  rfl
                                refine one_ (i := 4) (N := some 38) #[true, true, true, true, true, true, true, false] rfl rfl (one_of HT_.out (by kernel_rfl)) (by decide) (fun K hK => ?_)
                                refine goes_ Try.func34 (by kernel_rfl) rfl #[.string ((a0.extract 0 4) ++ (a0.extract 6 ((ji18) : Int).toNat))] (by rfl) rfl rfl (by (try simp only [List.map_toArray, List.map_cons, List.map_nil]); first | done | (simp only [hji18]; rfl) | rfl | (simp only [List.length_drop, List.length_take]; rfl)) ?_
                                with_reducible refine (gafferref01_check.calls k1 ((a0.extract 0 4) ++ (a0.extract 6 ((ji18) : Int).toNat)) t176 _ A14.out).mono ?_
                                rintro e w22 ⟨rfl, hb⟩
                                refine ⟨_, rfl, ?_⟩
                                have n0_ := Aside0.mk (below_step (by repeat (first | (with_reducible first | exact HB.out | apply below_alloc | apply pw_below_drewN | apply below_drew1) | exact HB.out)) hb)
                                clear HB
                                have HB := n0_
                                clear n0_
                                (try clear hb)
                                (try clear hb2)
                                (try clear hk)
                                (try clear hi)
                                refine hK.out _ _ trivial (fun hHeld => ?_)
                                clear hK K
                                refine norm_ (a' := ?_) ?_ ?_
                                rotate_left
                                · show Act.put _ (some 38) _ = _
                                  simp only [Act.put, List.setIfInBounds_toArray, List.set_cons_zero, List.set_cons_succ, i64_w, i32_w]
                                  rfl
                                refine pure_ (i := 7) (N := some 41) (v := ?_) (a' := ?_) #[true, true, true, true, true, true, true, true] rfl rfl (any_of HT_.out (by kernel_rfl)) (fun _ _ _ h => h) (Or.inl ⟨by rfl, ?_⟩) ?_ ?_
                                rotate_left
                                · intro w'
                                  go_simp
                                  first | (with_reducible rfl) | (rw [if_neg (by (try have o0_ := of_decide_eq_true c2b0); (try have o1_ := of_decide_eq_true c2b1); (try have o2_ := of_decide_eq_false c2b0); (try have o3_ := of_decide_eq_false c2b1); (try have o4_ := of_decide_eq_true c3b0); (try have o5_ := of_decide_eq_false c3b0); (try have o6_ := of_decide_eq_true c7b0); (try have o7_ := of_decide_eq_false c7b0); (try have o8_ := of_decide_eq_true c8b0); (try have o9_ := of_decide_eq_false c8b0); (try have o10_ := of_decide_eq_true c9b1); (try have o11_ := of_decide_eq_true c10b1); (try have o12_ := of_decide_eq_true c11b1); (try have o13_ := of_decide_eq_true c12b1); (try have o14_ := of_decide_eq_true c13b1); (try have o15_ := of_decide_eq_true c15b1); (try have o16_ := of_decide_eq_true c16b1); (try have o17_ := of_decide_eq_true c19b1); (try simp only [ByteArray.size_extract, ByteArray.size_append] at o0_); (try simp only [ByteArray.size_extract, ByteArray.size_append] at o1_); (try simp only [ByteArray.size_extract, ByteArray.size_append] at o2_); (try simp only [ByteArray.size_extract, ByteArray.size_append] at o3_); (try simp only [ByteArray.size_extract, ByteArray.size_append] at o4_); (try simp only [ByteArray.size_extract, ByteArray.size_append] at o5_); (try simp only [ByteArray.size_extract, ByteArray.size_append] at o6_); (try simp only [ByteArray.size_extract, ByteArray.size_append] at o7_); (try simp only [ByteArray.size_extract, ByteArray.size_append] at o8_); (try simp only [ByteArray.size_extract, ByteArray.size_append] at o9_); (try simp only [ByteArray.size_extract, ByteArray.size_append] at o10_); (try simp only [ByteArray.size_extract, ByteArray.size_append] at o11_); (try simp only [ByteArray.size_extract, ByteArray.size_append] at o12_); (try simp only [ByteArray.size_extract, ByteArray.size_append] at o13_); (try simp only [ByteArray.size_extract, ByteArray.size_append] at o14_); (try simp only [ByteArray.size_extract, ByteArray.size_append] at o15_); (try simp only [ByteArray.size_extract, ByteArray.size_append] at o16_); (try simp only [ByteArray.size_extract, ByteArray.size_append] at o17_); omega)]; try with_reducible rfl)
                                rotate_left
                                · simp only [Act.put, List.setIfInBounds_toArray, List.set_cons_zero, List.set_cons_succ, i64_w, i32_w]
                                  rfl
                                refine done_ (done_of HT_.out (by kernel_rfl)) ?_
                                try go_wp2
                                have n0_ := Aside0.mk (below_drew1 HB.out)
                                clear HB
                                have HB := n0_
                                clear n0_
                                refine start_ (n := 8) (S := fun w' => True) (ds := []) #[false, false, false, false, false, false, false, false] (by kernel_rfl) rfl rfl trivial (fun hHeld => ?_); refine with_tabW gafferref01_TakeFrame.tab15 gafferref01_TakeFrame.bits15 (fun HT_ HW_ => ?_)
                                generalize w22.drew = w23 at HB hHeld ⊢
                                refine pure_ (i := 0) (N := some 42) (v := ?_) (a' := ?_) #[true, false, false, false, false, false, false, false] rfl rfl (any_of HT_.out (by kernel_rfl)) (fun _ _ _ h => h) (Or.inl ⟨by rfl, ?_⟩) ?_ ?_
                                rotate_left
                                · intro w'
                                  go_simp
                                  first | (with_reducible rfl) | (rw [if_neg (by (try have o0_ := of_decide_eq_true c2b0); (try have o1_ := of_decide_eq_true c2b1); (try have o2_ := of_decide_eq_false c2b0); (try have o3_ := of_decide_eq_false c2b1); (try have o4_ := of_decide_eq_true c3b0); (try have o5_ := of_decide_eq_false c3b0); (try have o6_ := of_decide_eq_true c7b0); (try have o7_ := of_decide_eq_false c7b0); (try have o8_ := of_decide_eq_true c8b0); (try have o9_ := of_decide_eq_false c8b0); (try have o10_ := of_decide_eq_true c9b1); (try have o11_ := of_decide_eq_true c10b1); (try have o12_ := of_decide_eq_true c11b1); (try have o13_ := of_decide_eq_true c12b1); (try have o14_ := of_decide_eq_true c13b1); (try have o15_ := of_decide_eq_true c15b1); (try have o16_ := of_decide_eq_true c16b1); (try have o17_ := of_decide_eq_true c19b1); (try simp only [ByteArray.size_extract, ByteArray.size_append] at o0_); (try simp only [ByteArray.size_extract, ByteArray.size_append] at o1_); (try simp only [ByteArray.size_extract, ByteArray.size_append] at o2_); (try simp only [ByteArray.size_extract, ByteArray.size_append] at o3_); (try simp only [ByteArray.size_extract, ByteArray.size_append] at o4_); (try simp only [ByteArray.size_extract, ByteArray.size_append] at o5_); (try simp only [ByteArray.size_extract, ByteArray.size_append] at o6_); (try simp only [ByteArray.size_extract, ByteArray.size_append] at o7_); (try simp only [ByteArray.size_extract, ByteArray.size_append] at o8_); (try simp only [ByteArray.size_extract, ByteArray.size_append] at o9_); (try simp only [ByteArray.size_extract, ByteArray.size_append] at o10_); (try simp only [ByteArray.size_extract, ByteArray.size_append] at o11_); (try simp only [ByteArray.size_extract, ByteArray.size_append] at o12_); (try simp only [ByteArray.size_extract, ByteArray.size_append] at o13_); (try simp only [ByteArray.size_extract, ByteArray.size_append] at o14_); (try simp only [ByteArray.size_extract, ByteArray.size_append] at o15_); (try simp only [ByteArray.size_extract, ByteArray.size_append] at o16_); (try simp only [ByteArray.size_extract, ByteArray.size_append] at o17_); omega)]; try with_reducible rfl)
                                rotate_left
                                · simp only [Act.put, List.setIfInBounds_toArray, List.set_cons_zero, List.set_cons_succ, i64_w, i32_w]
                                  rfl
                                refine pure_ (i := 1) (N := some 43) (v := ?_) (a' := ?_) #[true, true, false, false, false, false, false, false] rfl rfl (any_of HT_.out (by kernel_rfl)) (fun _ _ _ h => h) (Or.inl ⟨by rfl, ?_⟩) ?_ ?_
                                rotate_left
                                · intro w'
                                  go_simp
                                  first | (with_reducible rfl) | (rw [if_neg (by (try have o0_ := of_decide_eq_true c2b0); (try have o1_ := of_decide_eq_true c2b1); (try have o2_ := of_decide_eq_false c2b0); (try have o3_ := of_decide_eq_false c2b1); (try have o4_ := of_decide_eq_true c3b0); (try have o5_ := of_decide_eq_false c3b0); (try have o6_ := of_decide_eq_true c7b0); (try have o7_ := of_decide_eq_false c7b0); (try have o8_ := of_decide_eq_true c8b0); (try have o9_ := of_decide_eq_false c8b0); (try have o10_ := of_decide_eq_true c9b1); (try have o11_ := of_decide_eq_true c10b1); (try have o12_ := of_decide_eq_true c11b1); (try have o13_ := of_decide_eq_true c12b1); (try have o14_ := of_decide_eq_true c13b1); (try have o15_ := of_decide_eq_true c15b1); (try have o16_ := of_decide_eq_true c16b1); (try have o17_ := of_decide_eq_true c19b1); (try simp only [ByteArray.size_extract, ByteArray.size_append] at o0_); (try simp only [ByteArray.size_extract, ByteArray.size_append] at o1_); (try simp only [ByteArray.size_extract, ByteArray.size_append] at o2_); (try simp only [ByteArray.size_extract, ByteArray.size_append] at o3_); (try simp only [ByteArray.size_extract, ByteArray.size_append] at o4_); (try simp only [ByteArray.size_extract, ByteArray.size_append] at o5_); (try simp only [ByteArray.size_extract, ByteArray.size_append] at o6_); (try simp only [ByteArray.size_extract, ByteArray.size_append] at o7_); (try simp only [ByteArray.size_extract, ByteArray.size_append] at o8_); (try simp only [ByteArray.size_extract, ByteArray.size_append] at o9_); (try simp only [ByteArray.size_extract, ByteArray.size_append] at o10_); (try simp only [ByteArray.size_extract, ByteArray.size_append] at o11_); (try simp only [ByteArray.size_extract, ByteArray.size_append] at o12_); (try simp only [ByteArray.size_extract, ByteArray.size_append] at o13_); (try simp only [ByteArray.size_extract, ByteArray.size_append] at o14_); (try simp only [ByteArray.size_extract, ByteArray.size_append] at o15_); (try simp only [ByteArray.size_extract, ByteArray.size_append] at o16_); (try simp only [ByteArray.size_extract, ByteArray.size_append] at o17_); omega)]; try with_reducible rfl)
                                rotate_left
                                · simp only [Act.put, List.setIfInBounds_toArray, List.set_cons_zero, List.set_cons_succ, i64_w, i32_w]
                                  rfl
                                refine pure_ (i := 2) (N := some 44) (v := ?_) (a' := ?_) #[true, true, true, false, false, false, false, false] rfl rfl (any_of HT_.out (by kernel_rfl)) (fun _ _ _ h => h) (Or.inl ⟨by rfl, ?_⟩) ?_ ?_
                                rotate_left
                                · intro w'
                                  go_simp
                                  first | (with_reducible rfl) | (rw [if_neg (by (try have o0_ := of_decide_eq_true c2b0); (try have o1_ := of_decide_eq_true c2b1); (try have o2_ := of_decide_eq_false c2b0); (try have o3_ := of_decide_eq_false c2b1); (try have o4_ := of_decide_eq_true c3b0); (try have o5_ := of_decide_eq_false c3b0); (try have o6_ := of_decide_eq_true c7b0); (try have o7_ := of_decide_eq_false c7b0); (try have o8_ := of_decide_eq_true c8b0); (try have o9_ := of_decide_eq_false c8b0); (try have o10_ := of_decide_eq_true c9b1); (try have o11_ := of_decide_eq_true c10b1); (try have o12_ := of_decide_eq_true c11b1); (try have o13_ := of_decide_eq_true c12b1); (try have o14_ := of_decide_eq_true c13b1); (try have o15_ := of_decide_eq_true c15b1); (try have o16_ := of_decide_eq_true c16b1); (try have o17_ := of_decide_eq_true c19b1); (try simp only [ByteArray.size_extract, ByteArray.size_append] at o0_); (try simp only [ByteArray.size_extract, ByteArray.size_append] at o1_); (try simp only [ByteArray.size_extract, ByteArray.size_append] at o2_); (try simp only [ByteArray.size_extract, ByteArray.size_append] at o3_); (try simp only [ByteArray.size_extract, ByteArray.size_append] at o4_); (try simp only [ByteArray.size_extract, ByteArray.size_append] at o5_); (try simp only [ByteArray.size_extract, ByteArray.size_append] at o6_); (try simp only [ByteArray.size_extract, ByteArray.size_append] at o7_); (try simp only [ByteArray.size_extract, ByteArray.size_append] at o8_); (try simp only [ByteArray.size_extract, ByteArray.size_append] at o9_); (try simp only [ByteArray.size_extract, ByteArray.size_append] at o10_); (try simp only [ByteArray.size_extract, ByteArray.size_append] at o11_); (try simp only [ByteArray.size_extract, ByteArray.size_append] at o12_); (try simp only [ByteArray.size_extract, ByteArray.size_append] at o13_); (try simp only [ByteArray.size_extract, ByteArray.size_append] at o14_); (try simp only [ByteArray.size_extract, ByteArray.size_append] at o15_); (try simp only [ByteArray.size_extract, ByteArray.size_append] at o16_); (try simp only [ByteArray.size_extract, ByteArray.size_append] at o17_); omega)]; try with_reducible rfl)
                                rotate_left
                                · simp only [Act.put, List.setIfInBounds_toArray, List.set_cons_zero, List.set_cons_succ, i64_w, i32_w]
                                  rfl
                                refine pure_ (i := 3) (N := some 45) (v := ?_) (a' := ?_) #[true, true, true, true, false, false, false, false] rfl rfl (any_of HT_.out (by kernel_rfl)) (fun _ _ _ h => h) (Or.inl ⟨by rfl, ?_⟩) ?_ ?_
                                rotate_left
                                · intro w'
                                  go_simp
                                  first | (with_reducible rfl) | (rw [if_neg (by (try have o0_ := of_decide_eq_true c2b0); (try have o1_ := of_decide_eq_true c2b1); (try have o2_ := of_decide_eq_false c2b0); (try have o3_ := of_decide_eq_false c2b1); (try have o4_ := of_decide_eq_true c3b0); (try have o5_ := of_decide_eq_false c3b0); (try have o6_ := of_decide_eq_true c7b0); (try have o7_ := of_decide_eq_false c7b0); (try have o8_ := of_decide_eq_true c8b0); (try have o9_ := of_decide_eq_false c8b0); (try have o10_ := of_decide_eq_true c9b1); (try have o11_ := of_decide_eq_true c10b1); (try have o12_ := of_decide_eq_true c11b1); (try have o13_ := of_decide_eq_true c12b1); (try have o14_ := of_decide_eq_true c13b1); (try have o15_ := of_decide_eq_true c15b1); (try have o16_ := of_decide_eq_true c16b1); (try have o17_ := of_decide_eq_true c19b1); (try simp only [ByteArray.size_extract, ByteArray.size_append] at o0_); (try simp only [ByteArray.size_extract, ByteArray.size_append] at o1_); (try simp only [ByteArray.size_extract, ByteArray.size_append] at o2_); (try simp only [ByteArray.size_extract, ByteArray.size_append] at o3_); (try simp only [ByteArray.size_extract, ByteArray.size_append] at o4_); (try simp only [ByteArray.size_extract, ByteArray.size_append] at o5_); (try simp only [ByteArray.size_extract, ByteArray.size_append] at o6_); (try simp only [ByteArray.size_extract, ByteArray.size_append] at o7_); (try simp only [ByteArray.size_extract, ByteArray.size_append] at o8_); (try simp only [ByteArray.size_extract, ByteArray.size_append] at o9_); (try simp only [ByteArray.size_extract, ByteArray.size_append] at o10_); (try simp only [ByteArray.size_extract, ByteArray.size_append] at o11_); (try simp only [ByteArray.size_extract, ByteArray.size_append] at o12_); (try simp only [ByteArray.size_extract, ByteArray.size_append] at o13_); (try simp only [ByteArray.size_extract, ByteArray.size_append] at o14_); (try simp only [ByteArray.size_extract, ByteArray.size_append] at o15_); (try simp only [ByteArray.size_extract, ByteArray.size_append] at o16_); (try simp only [ByteArray.size_extract, ByteArray.size_append] at o17_); omega)]; try with_reducible rfl)
                                rotate_left
                                · simp only [Act.put, List.setIfInBounds_toArray, List.set_cons_zero, List.set_cons_succ, i64_w, i32_w]
                                  rfl
                                refine pure_ (i := 4) (N := some 46) (v := ?_) (a' := ?_) #[true, true, true, true, true, false, false, false] rfl rfl (any_of HT_.out (by kernel_rfl)) (fun _ _ _ h => h) (Or.inl ⟨by rfl, ?_⟩) ?_ ?_
                                rotate_left
                                · intro w'
                                  go_simp
                                  first | (with_reducible rfl) | (rw [if_neg (by (try have o0_ := of_decide_eq_true c2b0); (try have o1_ := of_decide_eq_true c2b1); (try have o2_ := of_decide_eq_false c2b0); (try have o3_ := of_decide_eq_false c2b1); (try have o4_ := of_decide_eq_true c3b0); (try have o5_ := of_decide_eq_false c3b0); (try have o6_ := of_decide_eq_true c7b0); (try have o7_ := of_decide_eq_false c7b0); (try have o8_ := of_decide_eq_true c8b0); (try have o9_ := of_decide_eq_false c8b0); (try have o10_ := of_decide_eq_true c9b1); (try have o11_ := of_decide_eq_true c10b1); (try have o12_ := of_decide_eq_true c11b1); (try have o13_ := of_decide_eq_true c12b1); (try have o14_ := of_decide_eq_true c13b1); (try have o15_ := of_decide_eq_true c15b1); (try have o16_ := of_decide_eq_true c16b1); (try have o17_ := of_decide_eq_true c19b1); (try simp only [ByteArray.size_extract, ByteArray.size_append] at o0_); (try simp only [ByteArray.size_extract, ByteArray.size_append] at o1_); (try simp only [ByteArray.size_extract, ByteArray.size_append] at o2_); (try simp only [ByteArray.size_extract, ByteArray.size_append] at o3_); (try simp only [ByteArray.size_extract, ByteArray.size_append] at o4_); (try simp only [ByteArray.size_extract, ByteArray.size_append] at o5_); (try simp only [ByteArray.size_extract, ByteArray.size_append] at o6_); (try simp only [ByteArray.size_extract, ByteArray.size_append] at o7_); (try simp only [ByteArray.size_extract, ByteArray.size_append] at o8_); (try simp only [ByteArray.size_extract, ByteArray.size_append] at o9_); (try simp only [ByteArray.size_extract, ByteArray.size_append] at o10_); (try simp only [ByteArray.size_extract, ByteArray.size_append] at o11_); (try simp only [ByteArray.size_extract, ByteArray.size_append] at o12_); (try simp only [ByteArray.size_extract, ByteArray.size_append] at o13_); (try simp only [ByteArray.size_extract, ByteArray.size_append] at o14_); (try simp only [ByteArray.size_extract, ByteArray.size_append] at o15_); (try simp only [ByteArray.size_extract, ByteArray.size_append] at o16_); (try simp only [ByteArray.size_extract, ByteArray.size_append] at o17_); omega)]; try with_reducible rfl)
                                rotate_left
                                · simp only [Act.put, List.setIfInBounds_toArray, List.set_cons_zero, List.set_cons_succ, i64_w, i32_w]
                                  rfl
                                refine pure_ (i := 5) (N := some 2) (v := ?_) (a' := ?_) #[true, true, true, true, true, true, false, false] rfl rfl (any_of HT_.out (by kernel_rfl)) (fun _ _ _ h => h) (Or.inl ⟨by rfl, ?_⟩) ?_ ?_
                                rotate_left
                                · intro w'
                                  go_simp
                                  first | (with_reducible rfl) | (rw [if_neg (by (try have o0_ := of_decide_eq_true c2b0); (try have o1_ := of_decide_eq_true c2b1); (try have o2_ := of_decide_eq_false c2b0); (try have o3_ := of_decide_eq_false c2b1); (try have o4_ := of_decide_eq_true c3b0); (try have o5_ := of_decide_eq_false c3b0); (try have o6_ := of_decide_eq_true c7b0); (try have o7_ := of_decide_eq_false c7b0); (try have o8_ := of_decide_eq_true c8b0); (try have o9_ := of_decide_eq_false c8b0); (try have o10_ := of_decide_eq_true c9b1); (try have o11_ := of_decide_eq_true c10b1); (try have o12_ := of_decide_eq_true c11b1); (try have o13_ := of_decide_eq_true c12b1); (try have o14_ := of_decide_eq_true c13b1); (try have o15_ := of_decide_eq_true c15b1); (try have o16_ := of_decide_eq_true c16b1); (try have o17_ := of_decide_eq_true c19b1); (try simp only [ByteArray.size_extract, ByteArray.size_append] at o0_); (try simp only [ByteArray.size_extract, ByteArray.size_append] at o1_); (try simp only [ByteArray.size_extract, ByteArray.size_append] at o2_); (try simp only [ByteArray.size_extract, ByteArray.size_append] at o3_); (try simp only [ByteArray.size_extract, ByteArray.size_append] at o4_); (try simp only [ByteArray.size_extract, ByteArray.size_append] at o5_); (try simp only [ByteArray.size_extract, ByteArray.size_append] at o6_); (try simp only [ByteArray.size_extract, ByteArray.size_append] at o7_); (try simp only [ByteArray.size_extract, ByteArray.size_append] at o8_); (try simp only [ByteArray.size_extract, ByteArray.size_append] at o9_); (try simp only [ByteArray.size_extract, ByteArray.size_append] at o10_); (try simp only [ByteArray.size_extract, ByteArray.size_append] at o11_); (try simp only [ByteArray.size_extract, ByteArray.size_append] at o12_); (try simp only [ByteArray.size_extract, ByteArray.size_append] at o13_); (try simp only [ByteArray.size_extract, ByteArray.size_append] at o14_); (try simp only [ByteArray.size_extract, ByteArray.size_append] at o15_); (try simp only [ByteArray.size_extract, ByteArray.size_append] at o16_); (try simp only [ByteArray.size_extract, ByteArray.size_append] at o17_); omega)]; try with_reducible rfl)
                                rotate_left
                                · simp only [Act.put, List.setIfInBounds_toArray, List.set_cons_zero, List.set_cons_succ, i64_w, i32_w]
                                  rfl
                                refine pure_ (i := 6) (N := some 3) (v := ?_) (a' := ?_) #[true, true, true, true, true, true, true, false] rfl rfl (any_of HT_.out (by kernel_rfl)) (fun _ _ _ h => h) (Or.inl ⟨by rfl, ?_⟩) ?_ ?_
                                rotate_left
                                · intro w'
                                  go_simp
                                  first | (with_reducible rfl) | (rw [if_neg (by (try have o0_ := of_decide_eq_true c2b0); (try have o1_ := of_decide_eq_true c2b1); (try have o2_ := of_decide_eq_false c2b0); (try have o3_ := of_decide_eq_false c2b1); (try have o4_ := of_decide_eq_true c3b0); (try have o5_ := of_decide_eq_false c3b0); (try have o6_ := of_decide_eq_true c7b0); (try have o7_ := of_decide_eq_false c7b0); (try have o8_ := of_decide_eq_true c8b0); (try have o9_ := of_decide_eq_false c8b0); (try have o10_ := of_decide_eq_true c9b1); (try have o11_ := of_decide_eq_true c10b1); (try have o12_ := of_decide_eq_true c11b1); (try have o13_ := of_decide_eq_true c12b1); (try have o14_ := of_decide_eq_true c13b1); (try have o15_ := of_decide_eq_true c15b1); (try have o16_ := of_decide_eq_true c16b1); (try have o17_ := of_decide_eq_true c19b1); (try simp only [ByteArray.size_extract, ByteArray.size_append] at o0_); (try simp only [ByteArray.size_extract, ByteArray.size_append] at o1_); (try simp only [ByteArray.size_extract, ByteArray.size_append] at o2_); (try simp only [ByteArray.size_extract, ByteArray.size_append] at o3_); (try simp only [ByteArray.size_extract, ByteArray.size_append] at o4_); (try simp only [ByteArray.size_extract, ByteArray.size_append] at o5_); (try simp only [ByteArray.size_extract, ByteArray.size_append] at o6_); (try simp only [ByteArray.size_extract, ByteArray.size_append] at o7_); (try simp only [ByteArray.size_extract, ByteArray.size_append] at o8_); (try simp only [ByteArray.size_extract, ByteArray.size_append] at o9_); (try simp only [ByteArray.size_extract, ByteArray.size_append] at o10_); (try simp only [ByteArray.size_extract, ByteArray.size_append] at o11_); (try simp only [ByteArray.size_extract, ByteArray.size_append] at o12_); (try simp only [ByteArray.size_extract, ByteArray.size_append] at o13_); (try simp only [ByteArray.size_extract, ByteArray.size_append] at o14_); (try simp only [ByteArray.size_extract, ByteArray.size_append] at o15_); (try simp only [ByteArray.size_extract, ByteArray.size_append] at o16_); (try simp only [ByteArray.size_extract, ByteArray.size_append] at o17_); omega)]; try with_reducible rfl)
                                rotate_left
                                · simp only [Act.put, List.setIfInBounds_toArray, List.set_cons_zero, List.set_cons_succ, i64_w, i32_w]
                                  rfl
                                refine pure_ (i := 7) (N := some 4) (v := ?_) (a' := ?_) #[true, true, true, true, true, true, true, true] rfl rfl (any_of HT_.out (by kernel_rfl)) (fun _ _ _ h => h) (Or.inl ⟨by rfl, ?_⟩) ?_ ?_
                                rotate_left
                                · intro w'
                                  go_simp
                                  first | (with_reducible rfl) | (rw [if_neg (by (try have o0_ := of_decide_eq_true c2b0); (try have o1_ := of_decide_eq_true c2b1); (try have o2_ := of_decide_eq_false c2b0); (try have o3_ := of_decide_eq_false c2b1); (try have o4_ := of_decide_eq_true c3b0); (try have o5_ := of_decide_eq_false c3b0); (try have o6_ := of_decide_eq_true c7b0); (try have o7_ := of_decide_eq_false c7b0); (try have o8_ := of_decide_eq_true c8b0); (try have o9_ := of_decide_eq_false c8b0); (try have o10_ := of_decide_eq_true c9b1); (try have o11_ := of_decide_eq_true c10b1); (try have o12_ := of_decide_eq_true c11b1); (try have o13_ := of_decide_eq_true c12b1); (try have o14_ := of_decide_eq_true c13b1); (try have o15_ := of_decide_eq_true c15b1); (try have o16_ := of_decide_eq_true c16b1); (try have o17_ := of_decide_eq_true c19b1); (try simp only [ByteArray.size_extract, ByteArray.size_append] at o0_); (try simp only [ByteArray.size_extract, ByteArray.size_append] at o1_); (try simp only [ByteArray.size_extract, ByteArray.size_append] at o2_); (try simp only [ByteArray.size_extract, ByteArray.size_append] at o3_); (try simp only [ByteArray.size_extract, ByteArray.size_append] at o4_); (try simp only [ByteArray.size_extract, ByteArray.size_append] at o5_); (try simp only [ByteArray.size_extract, ByteArray.size_append] at o6_); (try simp only [ByteArray.size_extract, ByteArray.size_append] at o7_); (try simp only [ByteArray.size_extract, ByteArray.size_append] at o8_); (try simp only [ByteArray.size_extract, ByteArray.size_append] at o9_); (try simp only [ByteArray.size_extract, ByteArray.size_append] at o10_); (try simp only [ByteArray.size_extract, ByteArray.size_append] at o11_); (try simp only [ByteArray.size_extract, ByteArray.size_append] at o12_); (try simp only [ByteArray.size_extract, ByteArray.size_append] at o13_); (try simp only [ByteArray.size_extract, ByteArray.size_append] at o14_); (try simp only [ByteArray.size_extract, ByteArray.size_append] at o15_); (try simp only [ByteArray.size_extract, ByteArray.size_append] at o16_); (try simp only [ByteArray.size_extract, ByteArray.size_append] at o17_); omega)]; try with_reducible rfl)
                                rotate_left
                                · simp only [Act.put, List.setIfInBounds_toArray, List.set_cons_zero, List.set_cons_succ, i64_w, i32_w]
                                  rfl
                                refine done_ (done_of HT_.out (by kernel_rfl)) ?_
                                try go_wp2
                                go_ret3
                                exact ⟨by first | rfl | (simp [errW_none, errW_some] <;> rfl) | (simp only [← hji18]; first | rfl | (simp [errW_none, errW_some] <;> rfl)) | (simp [*, errW_none, errW_some] <;> rfl), by repeat (first | (with_reducible first | exact HB.out | apply below_alloc | apply pw_below_drewN | apply below_drew1) | exact HB.out)⟩
                              · rw [if_neg c19] at H
                                exact absurd H (by simp)
                            · rw [if_neg c17] at H
                              have c17b0 : (t176.toList == (a0.extract 4 6).toList) = false := beq_eq_false_iff_ne.mpr c17
                              have c17b1 : (t176.toList != (a0.extract 4 6).toList) = true := bne_iff_ne.mpr c17
                              simp only [Option.some.injEq, Prod.mk.injEq] at H
                              obtain ⟨rfl, rfl, rfl⟩ := H
                              try go_wp2
                              have n0_ := Aside0.mk (below_drew1 HB.out)
                              clear HB
                              have HB := n0_
                              clear n0_
                              refine start_ (n := 8) (S := fun w' => True) (ds := []) #[false, false, false, false, false, false, false, false] (by kernel_rfl) rfl rfl trivial (fun hHeld => ?_); refine with_tabW gafferref01_TakeFrame.tab13 gafferref01_TakeFrame.bits13 (fun HT_ HW_ => ?_)
                              generalize wr.drew = w24 at HB hHeld ⊢
                              refine pure_ (i := 0) (N := some 34) (v := ?_) (a' := ?_) #[true, false, false, false, false, false, false, false] rfl rfl (any_of HT_.out (by kernel_rfl)) (fun _ _ _ h => h) (Or.inl ⟨by rfl, ?_⟩) ?_ ?_
                              rotate_left
                              · intro w'
                                go_simp
                                first | (with_reducible rfl) | (rw [if_neg (by (try have o0_ := of_decide_eq_true c2b0); (try have o1_ := of_decide_eq_true c2b1); (try have o2_ := of_decide_eq_false c2b0); (try have o3_ := of_decide_eq_false c2b1); (try have o4_ := of_decide_eq_true c3b0); (try have o5_ := of_decide_eq_false c3b0); (try have o6_ := of_decide_eq_true c7b0); (try have o7_ := of_decide_eq_false c7b0); (try have o8_ := of_decide_eq_true c8b0); (try have o9_ := of_decide_eq_false c8b0); (try have o10_ := of_decide_eq_true c9b1); (try have o11_ := of_decide_eq_true c10b1); (try have o12_ := of_decide_eq_true c11b1); (try have o13_ := of_decide_eq_true c12b1); (try have o14_ := of_decide_eq_true c13b1); (try have o15_ := of_decide_eq_true c15b1); (try have o16_ := of_decide_eq_true c16b1); (try simp only [ByteArray.size_extract, ByteArray.size_append] at o0_); (try simp only [ByteArray.size_extract, ByteArray.size_append] at o1_); (try simp only [ByteArray.size_extract, ByteArray.size_append] at o2_); (try simp only [ByteArray.size_extract, ByteArray.size_append] at o3_); (try simp only [ByteArray.size_extract, ByteArray.size_append] at o4_); (try simp only [ByteArray.size_extract, ByteArray.size_append] at o5_); (try simp only [ByteArray.size_extract, ByteArray.size_append] at o6_); (try simp only [ByteArray.size_extract, ByteArray.size_append] at o7_); (try simp only [ByteArray.size_extract, ByteArray.size_append] at o8_); (try simp only [ByteArray.size_extract, ByteArray.size_append] at o9_); (try simp only [ByteArray.size_extract, ByteArray.size_append] at o10_); (try simp only [ByteArray.size_extract, ByteArray.size_append] at o11_); (try simp only [ByteArray.size_extract, ByteArray.size_append] at o12_); (try simp only [ByteArray.size_extract, ByteArray.size_append] at o13_); (try simp only [ByteArray.size_extract, ByteArray.size_append] at o14_); (try simp only [ByteArray.size_extract, ByteArray.size_append] at o15_); (try simp only [ByteArray.size_extract, ByteArray.size_append] at o16_); omega)]; try with_reducible rfl)
                              rotate_left
                              · simp only [Act.put, List.setIfInBounds_toArray, List.set_cons_zero, List.set_cons_succ, i64_w, i32_w]
                                rfl
                              refine pure_ (i := 1) (N := some 35) (v := ?_) (a' := ?_) #[true, true, false, false, false, false, false, false] rfl rfl (any_of HT_.out (by kernel_rfl)) (fun _ _ _ h => h) (Or.inl ⟨by rfl, ?_⟩) ?_ ?_
                              rotate_left
                              · intro w'
                                go_simp
                                first | (with_reducible rfl) | (rw [if_neg (by (try have o0_ := of_decide_eq_true c2b0); (try have o1_ := of_decide_eq_true c2b1); (try have o2_ := of_decide_eq_false c2b0); (try have o3_ := of_decide_eq_false c2b1); (try have o4_ := of_decide_eq_true c3b0); (try have o5_ := of_decide_eq_false c3b0); (try have o6_ := of_decide_eq_true c7b0); (try have o7_ := of_decide_eq_false c7b0); (try have o8_ := of_decide_eq_true c8b0); (try have o9_ := of_decide_eq_false c8b0); (try have o10_ := of_decide_eq_true c9b1); (try have o11_ := of_decide_eq_true c10b1); (try have o12_ := of_decide_eq_true c11b1); (try have o13_ := of_decide_eq_true c12b1); (try have o14_ := of_decide_eq_true c13b1); (try have o15_ := of_decide_eq_true c15b1); (try have o16_ := of_decide_eq_true c16b1); (try simp only [ByteArray.size_extract, ByteArray.size_append] at o0_); (try simp only [ByteArray.size_extract, ByteArray.size_append] at o1_); (try simp only [ByteArray.size_extract, ByteArray.size_append] at o2_); (try simp only [ByteArray.size_extract, ByteArray.size_append] at o3_); (try simp only [ByteArray.size_extract, ByteArray.size_append] at o4_); (try simp only [ByteArray.size_extract, ByteArray.size_append] at o5_); (try simp only [ByteArray.size_extract, ByteArray.size_append] at o6_); (try simp only [ByteArray.size_extract, ByteArray.size_append] at o7_); (try simp only [ByteArray.size_extract, ByteArray.size_append] at o8_); (try simp only [ByteArray.size_extract, ByteArray.size_append] at o9_); (try simp only [ByteArray.size_extract, ByteArray.size_append] at o10_); (try simp only [ByteArray.size_extract, ByteArray.size_append] at o11_); (try simp only [ByteArray.size_extract, ByteArray.size_append] at o12_); (try simp only [ByteArray.size_extract, ByteArray.size_append] at o13_); (try simp only [ByteArray.size_extract, ByteArray.size_append] at o14_); (try simp only [ByteArray.size_extract, ByteArray.size_append] at o15_); (try simp only [ByteArray.size_extract, ByteArray.size_append] at o16_); omega)]; try with_reducible rfl)
                              rotate_left
                              · simp only [Act.put, List.setIfInBounds_toArray, List.set_cons_zero, List.set_cons_succ, i64_w, i32_w]
                                rfl
                              refine pure_ (i := 2) (N := some 36) (v := ?_) (a' := ?_) #[true, true, true, false, false, false, false, false] rfl rfl (any_of HT_.out (by kernel_rfl)) (fun _ _ _ h => h) (Or.inl ⟨by rfl, ?_⟩) ?_ ?_
                              rotate_left
                              · intro w'
                                go_simp
                                first | (with_reducible rfl) | (rw [if_neg (by (try have o0_ := of_decide_eq_true c2b0); (try have o1_ := of_decide_eq_true c2b1); (try have o2_ := of_decide_eq_false c2b0); (try have o3_ := of_decide_eq_false c2b1); (try have o4_ := of_decide_eq_true c3b0); (try have o5_ := of_decide_eq_false c3b0); (try have o6_ := of_decide_eq_true c7b0); (try have o7_ := of_decide_eq_false c7b0); (try have o8_ := of_decide_eq_true c8b0); (try have o9_ := of_decide_eq_false c8b0); (try have o10_ := of_decide_eq_true c9b1); (try have o11_ := of_decide_eq_true c10b1); (try have o12_ := of_decide_eq_true c11b1); (try have o13_ := of_decide_eq_true c12b1); (try have o14_ := of_decide_eq_true c13b1); (try have o15_ := of_decide_eq_true c15b1); (try have o16_ := of_decide_eq_true c16b1); (try simp only [ByteArray.size_extract, ByteArray.size_append] at o0_); (try simp only [ByteArray.size_extract, ByteArray.size_append] at o1_); (try simp only [ByteArray.size_extract, ByteArray.size_append] at o2_); (try simp only [ByteArray.size_extract, ByteArray.size_append] at o3_); (try simp only [ByteArray.size_extract, ByteArray.size_append] at o4_); (try simp only [ByteArray.size_extract, ByteArray.size_append] at o5_); (try simp only [ByteArray.size_extract, ByteArray.size_append] at o6_); (try simp only [ByteArray.size_extract, ByteArray.size_append] at o7_); (try simp only [ByteArray.size_extract, ByteArray.size_append] at o8_); (try simp only [ByteArray.size_extract, ByteArray.size_append] at o9_); (try simp only [ByteArray.size_extract, ByteArray.size_append] at o10_); (try simp only [ByteArray.size_extract, ByteArray.size_append] at o11_); (try simp only [ByteArray.size_extract, ByteArray.size_append] at o12_); (try simp only [ByteArray.size_extract, ByteArray.size_append] at o13_); (try simp only [ByteArray.size_extract, ByteArray.size_append] at o14_); (try simp only [ByteArray.size_extract, ByteArray.size_append] at o15_); (try simp only [ByteArray.size_extract, ByteArray.size_append] at o16_); omega)]; try with_reducible rfl)
                              rotate_left
                              · simp only [Act.put, List.setIfInBounds_toArray, List.set_cons_zero, List.set_cons_succ, i64_w, i32_w]
                                rfl
                              refine pure_ (i := 3) (N := some 37) (v := ?_) (a' := ?_) #[true, true, true, true, false, false, false, false] rfl rfl (any_of HT_.out (by kernel_rfl)) (fun _ _ _ h => h) (Or.inl ⟨by rfl, ?_⟩) ?_ ?_
                              rotate_left
                              · intro w'
                                go_simp
                                first | (with_reducible rfl) | (rw [if_neg (by (try have o0_ := of_decide_eq_true c2b0); (try have o1_ := of_decide_eq_true c2b1); (try have o2_ := of_decide_eq_false c2b0); (try have o3_ := of_decide_eq_false c2b1); (try have o4_ := of_decide_eq_true c3b0); (try have o5_ := of_decide_eq_false c3b0); (try have o6_ := of_decide_eq_true c7b0); (try have o7_ := of_decide_eq_false c7b0); (try have o8_ := of_decide_eq_true c8b0); (try have o9_ := of_decide_eq_false c8b0); (try have o10_ := of_decide_eq_true c9b1); (try have o11_ := of_decide_eq_true c10b1); (try have o12_ := of_decide_eq_true c11b1); (try have o13_ := of_decide_eq_true c12b1); (try have o14_ := of_decide_eq_true c13b1); (try have o15_ := of_decide_eq_true c15b1); (try have o16_ := of_decide_eq_true c16b1); (try simp only [ByteArray.size_extract, ByteArray.size_append] at o0_); (try simp only [ByteArray.size_extract, ByteArray.size_append] at o1_); (try simp only [ByteArray.size_extract, ByteArray.size_append] at o2_); (try simp only [ByteArray.size_extract, ByteArray.size_append] at o3_); (try simp only [ByteArray.size_extract, ByteArray.size_append] at o4_); (try simp only [ByteArray.size_extract, ByteArray.size_append] at o5_); (try simp only [ByteArray.size_extract, ByteArray.size_append] at o6_); (try simp only [ByteArray.size_extract, ByteArray.size_append] at o7_); (try simp only [ByteArray.size_extract, ByteArray.size_append] at o8_); (try simp only [ByteArray.size_extract, ByteArray.size_append] at o9_); (try simp only [ByteArray.size_extract, ByteArray.size_append] at o10_); (try simp only [ByteArray.size_extract, ByteArray.size_append] at o11_); (try simp only [ByteArray.size_extract, ByteArray.size_append] at o12_); (try simp only [ByteArray.size_extract, ByteArray.size_append] at o13_); (try simp only [ByteArray.size_extract, ByteArray.size_append] at o14_); (try simp only [ByteArray.size_extract, ByteArray.size_append] at o15_); (try simp only [ByteArray.size_extract, ByteArray.size_append] at o16_); omega)]; try with_reducible rfl)
                              rotate_left
                              · simp only [Act.put, List.setIfInBounds_toArray, List.set_cons_zero, List.set_cons_succ, i64_w, i32_w]
                                rfl
                              refine pure_ (i := 5) (N := some 39) (v := ?_) (a' := ?_) #[true, true, true, true, false, true, false, false] rfl rfl (any_of HT_.out (by kernel_rfl)) (fun _ _ _ h => h) (Or.inl ⟨by rfl, ?_⟩) ?_ ?_
                              rotate_left
                              · intro w'
                                go_simp
                                first | (with_reducible rfl) | (rw [if_neg (by (try have o0_ := of_decide_eq_true c2b0); (try have o1_ := of_decide_eq_true c2b1); (try have o2_ := of_decide_eq_false c2b0); (try have o3_ := of_decide_eq_false c2b1); (try have o4_ := of_decide_eq_true c3b0); (try have o5_ := of_decide_eq_false c3b0); (try have o6_ := of_decide_eq_true c7b0); (try have o7_ := of_decide_eq_false c7b0); (try have o8_ := of_decide_eq_true c8b0); (try have o9_ := of_decide_eq_false c8b0); (try have o10_ := of_decide_eq_true c9b1); (try have o11_ := of_decide_eq_true c10b1); (try have o12_ := of_decide_eq_true c11b1); (try have o13_ := of_decide_eq_true c12b1); (try have o14_ := of_decide_eq_true c13b1); (try have o15_ := of_decide_eq_true c15b1); (try have o16_ := of_decide_eq_true c16b1); (try simp only [ByteArray.size_extract, ByteArray.size_append] at o0_); (try simp only [ByteArray.size_extract, ByteArray.size_append] at o1_); (try simp only [ByteArray.size_extract, ByteArray.size_append] at o2_); (try simp only [ByteArray.size_extract, ByteArray.size_append] at o3_); (try simp only [ByteArray.size_extract, ByteArray.size_append] at o4_); (try simp only [ByteArray.size_extract, ByteArray.size_append] at o5_); (try simp only [ByteArray.size_extract, ByteArray.size_append] at o6_); (try simp only [ByteArray.size_extract, ByteArray.size_append] at o7_); (try simp only [ByteArray.size_extract, ByteArray.size_append] at o8_); (try simp only [ByteArray.size_extract, ByteArray.size_append] at o9_); (try simp only [ByteArray.size_extract, ByteArray.size_append] at o10_); (try simp only [ByteArray.size_extract, ByteArray.size_append] at o11_); (try simp only [ByteArray.size_extract, ByteArray.size_append] at o12_); (try simp only [ByteArray.size_extract, ByteArray.size_append] at o13_); (try simp only [ByteArray.size_extract, ByteArray.size_append] at o14_); (try simp only [ByteArray.size_extract, ByteArray.size_append] at o15_); (try simp only [ByteArray.size_extract, ByteArray.size_append] at o16_); omega)]; try with_reducible rfl)
                              rotate_left
                              · simp only [Act.put, List.setIfInBounds_toArray, List.set_cons_zero, List.set_cons_succ, i64_w, i32_w]
                                rfl
                              refine pure_ (i := 6) (N := some 40) (v := ?_) (a' := ?_) #[true, true, true, true, false, true, true, false] rfl rfl (any_of HT_.out (by kernel_rfl)) (fun _ _ _ h => h) (Or.inl ⟨by rfl, ?_⟩) ?_ ?_
                              rotate_left
                              · intro w'
                                go_simp
                                first | (with_reducible rfl) | (rw [if_neg (by (try have o0_ := of_decide_eq_true c2b0); (try have o1_ := of_decide_eq_true c2b1); (try have o2_ := of_decide_eq_false c2b0); (try have o3_ := of_decide_eq_false c2b1); (try have o4_ := of_decide_eq_true c3b0); (try have o5_ := of_decide_eq_false c3b0); (try have o6_ := of_decide_eq_true c7b0); (try have o7_ := of_decide_eq_false c7b0); (try have o8_ := of_decide_eq_true c8b0); (try have o9_ := of_decide_eq_false c8b0); (try have o10_ := of_decide_eq_true c9b1); (try have o11_ := of_decide_eq_true c10b1); (try have o12_ := of_decide_eq_true c11b1); (try have o13_ := of_decide_eq_true c12b1); (try have o14_ := of_decide_eq_true c13b1); (try have o15_ := of_decide_eq_true c15b1); (try have o16_ := of_decide_eq_true c16b1); (try simp only [ByteArray.size_extract, ByteArray.size_append] at o0_); (try simp only [ByteArray.size_extract, ByteArray.size_append] at o1_); (try simp only [ByteArray.size_extract, ByteArray.size_append] at o2_); (try simp only [ByteArray.size_extract, ByteArray.size_append] at o3_); (try simp only [ByteArray.size_extract, ByteArray.size_append] at o4_); (try simp only [ByteArray.size_extract, ByteArray.size_append] at o5_); (try simp only [ByteArray.size_extract, ByteArray.size_append] at o6_); (try simp only [ByteArray.size_extract, ByteArray.size_append] at o7_); (try simp only [ByteArray.size_extract, ByteArray.size_append] at o8_); (try simp only [ByteArray.size_extract, ByteArray.size_append] at o9_); (try simp only [ByteArray.size_extract, ByteArray.size_append] at o10_); (try simp only [ByteArray.size_extract, ByteArray.size_append] at o11_); (try simp only [ByteArray.size_extract, ByteArray.size_append] at o12_); (try simp only [ByteArray.size_extract, ByteArray.size_append] at o13_); (try simp only [ByteArray.size_extract, ByteArray.size_append] at o14_); (try simp only [ByteArray.size_extract, ByteArray.size_append] at o15_); (try simp only [ByteArray.size_extract, ByteArray.size_append] at o16_); omega)]; try with_reducible rfl)
                              rotate_left
                              · simp only [Act.put, List.setIfInBounds_toArray, List.set_cons_zero, List.set_cons_succ, i64_w, i32_w]
                                rfl
                              refine one_ (i := 4) (N := some 38) #[true, true, true, true, true, true, true, false] rfl rfl (one_of HT_.out (by kernel_rfl)) (by decide) (fun K hK => ?_)
                              refine goes_ Try.func34 (by kernel_rfl) rfl #[.string ((a0.extract 0 4) ++ (a0.extract 6 ((IntKind.u64.wrap (x5_1 + 6)) : Int).toNat))] (by rfl) rfl rfl (by (try simp only [List.map_toArray, List.map_cons, List.map_nil]); first | done | rfl | (simp only [List.length_drop, List.length_take]; rfl)) ?_
                              with_reducible refine (gafferref01_check.calls k1 ((a0.extract 0 4) ++ (a0.extract 6 ((IntKind.u64.wrap (x5_1 + 6)) : Int).toNat)) t176 _ A14.out).mono ?_
                              rintro e w25 ⟨rfl, hb⟩
                              refine ⟨_, rfl, ?_⟩
                              have n0_ := Aside0.mk (below_step (by repeat (first | (with_reducible first | exact HB.out | apply below_alloc | apply pw_below_drewN | apply below_drew1) | exact HB.out)) hb)
                              clear HB
                              have HB := n0_
                              clear n0_
                              (try clear hb)
                              (try clear hb2)
                              (try clear hk)
                              (try clear hi)
                              refine hK.out _ _ trivial (fun hHeld => ?_)
                              clear hK K
                              refine norm_ (a' := ?_) ?_ ?_
                              rotate_left
                              · show Act.put _ (some 38) _ = _
                                simp only [Act.put, List.setIfInBounds_toArray, List.set_cons_zero, List.set_cons_succ, i64_w, i32_w]
                                rfl
                              refine pure_ (i := 7) (N := some 41) (v := ?_) (a' := ?_) #[true, true, true, true, true, true, true, true] rfl rfl (any_of HT_.out (by kernel_rfl)) (fun _ _ _ h => h) (Or.inl ⟨by rfl, ?_⟩) ?_ ?_
                              rotate_left
                              · intro w'
                                go_simp
                                first | (with_reducible rfl) | (rw [if_neg (by (try have o0_ := of_decide_eq_true c2b0); (try have o1_ := of_decide_eq_true c2b1); (try have o2_ := of_decide_eq_false c2b0); (try have o3_ := of_decide_eq_false c2b1); (try have o4_ := of_decide_eq_true c3b0); (try have o5_ := of_decide_eq_false c3b0); (try have o6_ := of_decide_eq_true c7b0); (try have o7_ := of_decide_eq_false c7b0); (try have o8_ := of_decide_eq_true c8b0); (try have o9_ := of_decide_eq_false c8b0); (try have o10_ := of_decide_eq_true c9b1); (try have o11_ := of_decide_eq_true c10b1); (try have o12_ := of_decide_eq_true c11b1); (try have o13_ := of_decide_eq_true c12b1); (try have o14_ := of_decide_eq_true c13b1); (try have o15_ := of_decide_eq_true c15b1); (try have o16_ := of_decide_eq_true c16b1); (try simp only [ByteArray.size_extract, ByteArray.size_append] at o0_); (try simp only [ByteArray.size_extract, ByteArray.size_append] at o1_); (try simp only [ByteArray.size_extract, ByteArray.size_append] at o2_); (try simp only [ByteArray.size_extract, ByteArray.size_append] at o3_); (try simp only [ByteArray.size_extract, ByteArray.size_append] at o4_); (try simp only [ByteArray.size_extract, ByteArray.size_append] at o5_); (try simp only [ByteArray.size_extract, ByteArray.size_append] at o6_); (try simp only [ByteArray.size_extract, ByteArray.size_append] at o7_); (try simp only [ByteArray.size_extract, ByteArray.size_append] at o8_); (try simp only [ByteArray.size_extract, ByteArray.size_append] at o9_); (try simp only [ByteArray.size_extract, ByteArray.size_append] at o10_); (try simp only [ByteArray.size_extract, ByteArray.size_append] at o11_); (try simp only [ByteArray.size_extract, ByteArray.size_append] at o12_); (try simp only [ByteArray.size_extract, ByteArray.size_append] at o13_); (try simp only [ByteArray.size_extract, ByteArray.size_append] at o14_); (try simp only [ByteArray.size_extract, ByteArray.size_append] at o15_); (try simp only [ByteArray.size_extract, ByteArray.size_append] at o16_); omega)]; try with_reducible rfl)
                              rotate_left
                              · simp only [Act.put, List.setIfInBounds_toArray, List.set_cons_zero, List.set_cons_succ, i64_w, i32_w]
                                rfl
                              refine done_ (done_of HT_.out (by kernel_rfl)) ?_
                              try go_wp2
                              go_ret3
                              exact ⟨by first | rfl | (simp [errW_none, errW_some] <;> rfl) | (simp [*, errW_none, errW_some] <;> rfl), by repeat (first | (with_reducible first | exact HB.out | apply below_alloc | apply pw_below_drewN | apply below_drew1) | exact HB.out)⟩
                          · rw [if_neg c16] at H
                            exact absurd H (by simp)
                        · rw [if_neg c15] at H
                          exact absurd H (by simp)
                      · rw [if_neg c13] at H
                        exact absurd H (by simp)
                    · rw [if_neg c12] at H
                      exact absurd H (by simp)
                  · rw [if_neg c11] at H
                    exact absurd H (by simp)
                · rw [if_neg c10] at H
                  exact absurd H (by simp)
              · rw [if_neg c9] at H
                exact absurd H (by simp)

/-! ### gafferlaw01_frames: function 29 -/
def gafferlaw01_frames.f (k : Nat)  : Option (Bool) := (pack_Frame.f k (⟨#[97]⟩ : ByteArray)).bind fun bt177 => (if bt177.1.size + 1 ≤ 9223372036854775807 then ((pack_TakeFrame.f k (bt177.1 ++ (⟨#[98]⟩ : ByteArray))).bind fun bt179 => (if (bt177.1.size : Int) = 7 then (if bt177.2 = 0 then (if bt179.1.toList = ([97] : List UInt8) then (if bt179.2.1.toList = ([98] : List UInt8) then (some (bt179.2.2 == 0)) else (some false)) else (some false)) else (some false)) else (some false))) else (none))
theorem gafferlaw01_frames.mono : ∀ k, LeO (gafferlaw01_frames.f k ) (gafferlaw01_frames.f (k + 1) ) := by
  intro  k
  unfold gafferlaw01_frames.f
  repeat' first
      | (with_reducible exact pack_Frame.mono _ _)
      | (with_reducible exact pack_TakeFrame.mono _ _)
      | (with_reducible exact LeO.refl _)
      | (with_reducible exact LeO.none _)
      | (with_reducible refine LeO.ite ?_ ?_)
      | (with_reducible refine LeO.bind ?_ (fun _ => ?_))
      | exact pack_Frame.mono _ _
      | exact pack_TakeFrame.mono _ _
      | exact LeO.none _
      | refine LeO.ite ?_ ?_
      | refine LeO.bind ?_ (fun _ => ?_)
set_option maxHeartbeats 8000000 in
set_option maxRecDepth 100000 in
theorem gafferlaw01_frames.calls (k : Nat)  (r : Bool) (w : World) (h : gafferlaw01_frames.f k  = some r) :
    Calls Try.prog 29 #[] w fun e w' => e = .returned (.bool r) ∧ Below w.heap.size w w' := by
  have HB := Aside0.mk (Below.refl w.heap.size w)
  have H : ((pack_Frame.f k (⟨#[97]⟩ : ByteArray)).bind fun bt177 => (if bt177.1.size + 1 ≤ 9223372036854775807 then ((pack_TakeFrame.f k (bt177.1 ++ (⟨#[98]⟩ : ByteArray))).bind fun bt179 => (if (bt177.1.size : Int) = 7 then (if bt177.2 = 0 then (if bt179.1.toList = ([97] : List UInt8) then (if bt179.2.1.toList = ([98] : List UInt8) then (some (bt179.2.2 == 0)) else (some false)) else (some false)) else (some false)) else (some false))) else (none))) = some r := h
  clear h
  replace H := Option.bind_eq_some_iff.mp H
  obtain ⟨⟨t177, t178⟩, A10, H⟩ := H
  replace H : (if t177.size + 1 ≤ 9223372036854775807 then ((pack_TakeFrame.f k (t177 ++ (⟨#[98]⟩ : ByteArray))).bind fun bt179 => (if (t177.size : Int) = 7 then (if t178 = 0 then (if bt179.1.toList = ([97] : List UInt8) then (if bt179.2.1.toList = ([98] : List UInt8) then (some (bt179.2.2 == 0)) else (some false)) else (some false)) else (some false)) else (some false))) else (none)) = some r := H
  have A1 := Aside0.mk A10
  clear A10
  by_cases c2 : t177.size + 1 ≤ 9223372036854775807
  · rw [if_pos c2] at H
    have c2b0 := eq_true c2
    have c2b1 : decide (t177.size + 1 ≤ 9223372036854775807) = true := decide_eq_true c2
    try have c2b2 : (9223372036854775807 < t177.size + 1) = False := eq_false (Nat.not_lt.2 c2)
    clear c2
    replace H := Option.bind_eq_some_iff.mp H
    obtain ⟨⟨t179, t180, t181⟩, A30, H⟩ := H
    replace H : (if (t177.size : Int) = 7 then (if t178 = 0 then (if t179.toList = ([97] : List UInt8) then (if t180.toList = ([98] : List UInt8) then (some (t181 == 0)) else (some false)) else (some false)) else (some false)) else (some false)) = some r := H
    have A3 := Aside0.mk A30
    clear A30
    by_cases c4 : (t177.size : Int) = 7
    · rw [if_pos c4] at H
      have c4b0 : ((t177.size : Int) == 7) = true := beq_iff_eq.mpr c4
      have c4b1 : ((t177.size : Int) != 7) = false := bne_eq_false_iff_eq.mpr c4
      clear c4
      by_cases c5 : t178 = 0
      · rw [if_pos c5] at H
        have c5b0 : (t178 == 0) = true := beq_iff_eq.mpr c5
        have c5b1 : (t178 != 0) = false := bne_eq_false_iff_eq.mpr c5
        clear c5
        by_cases c6 : t179.toList = ([97] : List UInt8)
        · rw [if_pos c6] at H
          have c6b0 : (t179.toList == ([97] : List UInt8)) = true := beq_iff_eq.mpr c6
          have c6b1 : (t179.toList != ([97] : List UInt8)) = false := bne_eq_false_iff_eq.mpr c6
          clear c6
          by_cases c7 : t180.toList = ([98] : List UInt8)
          · rw [if_pos c7] at H
            have c7b0 : (t180.toList == ([98] : List UInt8)) = true := beq_iff_eq.mpr c7
            have c7b1 : (t180.toList != ([98] : List UInt8)) = false := bne_eq_false_iff_eq.mpr c7
            clear c7
            obtain rfl := Option.some.inj H
            go_enter Try.func29, Try.ntmps29
            go_wp2_with (first | ((with_reducible refine gate_callee (f := 25) rfl ?_); refine goesL_ (some 7) rfl rfl Try.func25 (by kernel_rfl) rfl #[.string (⟨#[97]⟩ : ByteArray)] rfl (by (try simp only [List.map_toArray, List.map_cons, List.map_nil]); first | done | rfl | (simp only [List.length_drop, List.length_take]; rfl)) ?_; (with_reducible refine (pack_Frame.calls k (⟨#[97]⟩ : ByteArray) t177 t178 _ A1.out).mono ?_); rintro e w8 ⟨rfl, hb⟩; refine ⟨_, rfl, ?_⟩; have n0_ := Aside0.mk (below_step (by repeat (first | (with_reducible first | exact HB.out | apply below_alloc | apply pw_below_drewN | apply below_drew1) | exact HB.out)) hb); clear HB; have HB := n0_; clear n0_; (try clear hb); (try clear hb2); (try clear hk); (try clear hi)) | ((with_reducible refine gate_callee (f := 27) rfl ?_); refine goesL_ (some 13) rfl rfl Try.func27 (by kernel_rfl) rfl #[.string (t177 ++ (⟨#[98]⟩ : ByteArray))] rfl (by (try simp only [List.map_toArray, List.map_cons, List.map_nil]); first | done | rfl | (simp only [List.length_drop, List.length_take]; rfl)) ?_; (with_reducible refine (pack_TakeFrame.calls k (t177 ++ (⟨#[98]⟩ : ByteArray)) t179 t180 t181 _ A3.out).mono ?_); rintro e w9 ⟨rfl, hb⟩; refine ⟨_, rfl, ?_⟩; have n0_ := Aside0.mk (below_step (by repeat (first | (with_reducible first | exact HB.out | apply below_alloc | apply pw_below_drewN | apply below_drew1) | exact HB.out)) hb); clear HB; have HB := n0_; clear n0_; (try clear hb); (try clear hb2); (try clear hk); (try clear hi)))
            go_ret
            exact ⟨by first | rfl | (simp [errW_none, errW_some] <;> rfl) | (simp [*, errW_none, errW_some] <;> rfl), by repeat (first | (with_reducible first | exact HB.out | apply below_alloc | apply pw_below_drewN | apply below_drew1) | exact HB.out)⟩
          · rw [if_neg c7] at H
            have c7b0 : (t180.toList == ([98] : List UInt8)) = false := beq_eq_false_iff_ne.mpr c7
            have c7b1 : (t180.toList != ([98] : List UInt8)) = true := bne_iff_ne.mpr c7
            obtain rfl := Option.some.inj H
            go_enter Try.func29, Try.ntmps29
            go_wp2_with (first | ((with_reducible refine gate_callee (f := 25) rfl ?_); refine goesL_ (some 7) rfl rfl Try.func25 (by kernel_rfl) rfl #[.string (⟨#[97]⟩ : ByteArray)] rfl (by (try simp only [List.map_toArray, List.map_cons, List.map_nil]); first | done | rfl | (simp only [List.length_drop, List.length_take]; rfl)) ?_; (with_reducible refine (pack_Frame.calls k (⟨#[97]⟩ : ByteArray) t177 t178 _ A1.out).mono ?_); rintro e w10 ⟨rfl, hb⟩; refine ⟨_, rfl, ?_⟩; have n0_ := Aside0.mk (below_step (by repeat (first | (with_reducible first | exact HB.out | apply below_alloc | apply pw_below_drewN | apply below_drew1) | exact HB.out)) hb); clear HB; have HB := n0_; clear n0_; (try clear hb); (try clear hb2); (try clear hk); (try clear hi)) | ((with_reducible refine gate_callee (f := 27) rfl ?_); refine goesL_ (some 13) rfl rfl Try.func27 (by kernel_rfl) rfl #[.string (t177 ++ (⟨#[98]⟩ : ByteArray))] rfl (by (try simp only [List.map_toArray, List.map_cons, List.map_nil]); first | done | rfl | (simp only [List.length_drop, List.length_take]; rfl)) ?_; (with_reducible refine (pack_TakeFrame.calls k (t177 ++ (⟨#[98]⟩ : ByteArray)) t179 t180 t181 _ A3.out).mono ?_); rintro e w11 ⟨rfl, hb⟩; refine ⟨_, rfl, ?_⟩; have n0_ := Aside0.mk (below_step (by repeat (first | (with_reducible first | exact HB.out | apply below_alloc | apply pw_below_drewN | apply below_drew1) | exact HB.out)) hb); clear HB; have HB := n0_; clear n0_; (try clear hb); (try clear hb2); (try clear hk); (try clear hi)))
            go_ret
            exact ⟨by first | rfl | (simp [errW_none, errW_some] <;> rfl) | (simp [*, errW_none, errW_some] <;> rfl), by repeat (first | (with_reducible first | exact HB.out | apply below_alloc | apply pw_below_drewN | apply below_drew1) | exact HB.out)⟩
        · rw [if_neg c6] at H
          have c6b0 : (t179.toList == ([97] : List UInt8)) = false := beq_eq_false_iff_ne.mpr c6
          have c6b1 : (t179.toList != ([97] : List UInt8)) = true := bne_iff_ne.mpr c6
          obtain rfl := Option.some.inj H
          go_enter Try.func29, Try.ntmps29
          go_wp2_with (first | ((with_reducible refine gate_callee (f := 25) rfl ?_); refine goesL_ (some 7) rfl rfl Try.func25 (by kernel_rfl) rfl #[.string (⟨#[97]⟩ : ByteArray)] rfl (by (try simp only [List.map_toArray, List.map_cons, List.map_nil]); first | done | rfl | (simp only [List.length_drop, List.length_take]; rfl)) ?_; (with_reducible refine (pack_Frame.calls k (⟨#[97]⟩ : ByteArray) t177 t178 _ A1.out).mono ?_); rintro e w12 ⟨rfl, hb⟩; refine ⟨_, rfl, ?_⟩; have n0_ := Aside0.mk (below_step (by repeat (first | (with_reducible first | exact HB.out | apply below_alloc | apply pw_below_drewN | apply below_drew1) | exact HB.out)) hb); clear HB; have HB := n0_; clear n0_; (try clear hb); (try clear hb2); (try clear hk); (try clear hi)) | ((with_reducible refine gate_callee (f := 27) rfl ?_); refine goesL_ (some 13) rfl rfl Try.func27 (by kernel_rfl) rfl #[.string (t177 ++ (⟨#[98]⟩ : ByteArray))] rfl (by (try simp only [List.map_toArray, List.map_cons, List.map_nil]); first | done | rfl | (simp only [List.length_drop, List.length_take]; rfl)) ?_; (with_reducible refine (pack_TakeFrame.calls k (t177 ++ (⟨#[98]⟩ : ByteArray)) t179 t180 t181 _ A3.out).mono ?_); rintro e w13 ⟨rfl, hb⟩; refine ⟨_, rfl, ?_⟩; have n0_ := Aside0.mk (below_step (by repeat (first | (with_reducible first | exact HB.out | apply below_alloc | apply pw_below_drewN | apply below_drew1) | exact HB.out)) hb); clear HB; have HB := n0_; clear n0_; (try clear hb); (try clear hb2); (try clear hk); (try clear hi)))
          go_ret
          exact ⟨by first | rfl | (simp [errW_none, errW_some] <;> rfl) | (simp [*, errW_none, errW_some] <;> rfl), by repeat (first | (with_reducible first | exact HB.out | apply below_alloc | apply pw_below_drewN | apply below_drew1) | exact HB.out)⟩
      · rw [if_neg c5] at H
        have c5b0 : (t178 == 0) = false := beq_eq_false_iff_ne.mpr c5
        have c5b1 : (t178 != 0) = true := bne_iff_ne.mpr c5
        obtain rfl := Option.some.inj H
        go_enter Try.func29, Try.ntmps29
        go_wp2_with (first | ((with_reducible refine gate_callee (f := 25) rfl ?_); refine goesL_ (some 7) rfl rfl Try.func25 (by kernel_rfl) rfl #[.string (⟨#[97]⟩ : ByteArray)] rfl (by (try simp only [List.map_toArray, List.map_cons, List.map_nil]); first | done | rfl | (simp only [List.length_drop, List.length_take]; rfl)) ?_; (with_reducible refine (pack_Frame.calls k (⟨#[97]⟩ : ByteArray) t177 t178 _ A1.out).mono ?_); rintro e w14 ⟨rfl, hb⟩; refine ⟨_, rfl, ?_⟩; have n0_ := Aside0.mk (below_step (by repeat (first | (with_reducible first | exact HB.out | apply below_alloc | apply pw_below_drewN | apply below_drew1) | exact HB.out)) hb); clear HB; have HB := n0_; clear n0_; (try clear hb); (try clear hb2); (try clear hk); (try clear hi)) | ((with_reducible refine gate_callee (f := 27) rfl ?_); refine goesL_ (some 13) rfl rfl Try.func27 (by kernel_rfl) rfl #[.string (t177 ++ (⟨#[98]⟩ : ByteArray))] rfl (by (try simp only [List.map_toArray, List.map_cons, List.map_nil]); first | done | rfl | (simp only [List.length_drop, List.length_take]; rfl)) ?_; (with_reducible refine (pack_TakeFrame.calls k (t177 ++ (⟨#[98]⟩ : ByteArray)) t179 t180 t181 _ A3.out).mono ?_); rintro e w15 ⟨rfl, hb⟩; refine ⟨_, rfl, ?_⟩; have n0_ := Aside0.mk (below_step (by repeat (first | (with_reducible first | exact HB.out | apply below_alloc | apply pw_below_drewN | apply below_drew1) | exact HB.out)) hb); clear HB; have HB := n0_; clear n0_; (try clear hb); (try clear hb2); (try clear hk); (try clear hi)))
        go_ret
        exact ⟨by first | rfl | (simp [errW_none, errW_some] <;> rfl) | (simp [*, errW_none, errW_some] <;> rfl), by repeat (first | (with_reducible first | exact HB.out | apply below_alloc | apply pw_below_drewN | apply below_drew1) | exact HB.out)⟩
    · rw [if_neg c4] at H
      have c4b0 : ((t177.size : Int) == 7) = false := beq_eq_false_iff_ne.mpr c4
      have c4b1 : ((t177.size : Int) != 7) = true := bne_iff_ne.mpr c4
      obtain rfl := Option.some.inj H
      go_enter Try.func29, Try.ntmps29
      go_wp2_with (first | ((with_reducible refine gate_callee (f := 25) rfl ?_); refine goesL_ (some 7) rfl rfl Try.func25 (by kernel_rfl) rfl #[.string (⟨#[97]⟩ : ByteArray)] rfl (by (try simp only [List.map_toArray, List.map_cons, List.map_nil]); first | done | rfl | (simp only [List.length_drop, List.length_take]; rfl)) ?_; (with_reducible refine (pack_Frame.calls k (⟨#[97]⟩ : ByteArray) t177 t178 _ A1.out).mono ?_); rintro e w16 ⟨rfl, hb⟩; refine ⟨_, rfl, ?_⟩; have n0_ := Aside0.mk (below_step (by repeat (first | (with_reducible first | exact HB.out | apply below_alloc | apply pw_below_drewN | apply below_drew1) | exact HB.out)) hb); clear HB; have HB := n0_; clear n0_; (try clear hb); (try clear hb2); (try clear hk); (try clear hi)) | ((with_reducible refine gate_callee (f := 27) rfl ?_); refine goesL_ (some 13) rfl rfl Try.func27 (by kernel_rfl) rfl #[.string (t177 ++ (⟨#[98]⟩ : ByteArray))] rfl (by (try simp only [List.map_toArray, List.map_cons, List.map_nil]); first | done | rfl | (simp only [List.length_drop, List.length_take]; rfl)) ?_; (with_reducible refine (pack_TakeFrame.calls k (t177 ++ (⟨#[98]⟩ : ByteArray)) t179 t180 t181 _ A3.out).mono ?_); rintro e w17 ⟨rfl, hb⟩; refine ⟨_, rfl, ?_⟩; have n0_ := Aside0.mk (below_step (by repeat (first | (with_reducible first | exact HB.out | apply below_alloc | apply pw_below_drewN | apply below_drew1) | exact HB.out)) hb); clear HB; have HB := n0_; clear n0_; (try clear hb); (try clear hb2); (try clear hk); (try clear hi)))
      go_ret
      exact ⟨by first | rfl | (simp [errW_none, errW_some] <;> rfl) | (simp [*, errW_none, errW_some] <;> rfl), by repeat (first | (with_reducible first | exact HB.out | apply below_alloc | apply pw_below_drewN | apply below_drew1) | exact HB.out)⟩
  · rw [if_neg c2] at H
    exact absurd H (by simp)

/-! ### gafferlaw01_PackFrames: function 8 -/
def gafferlaw01_PackFrames.f (k : Nat) (a0 : ByteArray) (a1 : ByteArray) : Option (Bool) := (pack_Frame.f k a0).bind fun bt182 => ((gafferref01_Frame.f k a0).bind fun bt184 => ((pack_TakeFrame.f k a1).bind fun bt186 => ((gafferref01_TakeFrame.f k a1).bind fun bt189 => ((gafferlaw01_frames.f k).bind fun t192 => (if t192 = true then (if bt182.1.toList = bt184.1.toList then (if bt182.2 = bt184.2 then (if bt186.1.toList = bt189.1.toList then (if bt186.2.1.toList = bt189.2.1.toList then (some (bt186.2.2 == bt189.2.2)) else (some false)) else (some false)) else (some false)) else (some false)) else (some false))))))
theorem gafferlaw01_PackFrames.mono : ∀ a0 a1 k, LeO (gafferlaw01_PackFrames.f k a0 a1) (gafferlaw01_PackFrames.f (k + 1) a0 a1) := by
  intro a0 a1 k
  unfold gafferlaw01_PackFrames.f
  repeat' first
      | (with_reducible exact gafferlaw01_frames.mono _)
      | (with_reducible exact gafferref01_Frame.mono _ _)
      | (with_reducible exact gafferref01_TakeFrame.mono _ _)
      | (with_reducible exact pack_Frame.mono _ _)
      | (with_reducible exact pack_TakeFrame.mono _ _)
      | (with_reducible exact LeO.refl _)
      | (with_reducible exact LeO.none _)
      | (with_reducible refine LeO.ite ?_ ?_)
      | (with_reducible refine LeO.bind ?_ (fun _ => ?_))
      | exact gafferlaw01_frames.mono _
      | exact gafferref01_Frame.mono _ _
      | exact gafferref01_TakeFrame.mono _ _
      | exact pack_Frame.mono _ _
      | exact pack_TakeFrame.mono _ _
      | exact LeO.none _
      | refine LeO.ite ?_ ?_
      | refine LeO.bind ?_ (fun _ => ?_)
set_option maxHeartbeats 8000000 in
set_option maxRecDepth 100000 in
theorem gafferlaw01_PackFrames.calls (k : Nat) (a0 : ByteArray) (a1 : ByteArray) (r : Bool) (w : World) (h : gafferlaw01_PackFrames.f k a0 a1 = some r) :
    Calls Try.prog 8 #[.string a0, .string a1] w fun e w' => e = .returned (.bool r) ∧ Below w.heap.size w w' := by
  have HB := Aside0.mk (Below.refl w.heap.size w)
  have H : ((pack_Frame.f k a0).bind fun bt182 => ((gafferref01_Frame.f k a0).bind fun bt184 => ((pack_TakeFrame.f k a1).bind fun bt186 => ((gafferref01_TakeFrame.f k a1).bind fun bt189 => ((gafferlaw01_frames.f k).bind fun t192 => (if t192 = true then (if bt182.1.toList = bt184.1.toList then (if bt182.2 = bt184.2 then (if bt186.1.toList = bt189.1.toList then (if bt186.2.1.toList = bt189.2.1.toList then (some (bt186.2.2 == bt189.2.2)) else (some false)) else (some false)) else (some false)) else (some false)) else (some false))))))) = some r := h
  clear h
  replace H := Option.bind_eq_some_iff.mp H
  obtain ⟨⟨t182, t183⟩, A30, H⟩ := H
  replace H : ((gafferref01_Frame.f k a0).bind fun bt184 => ((pack_TakeFrame.f k a1).bind fun bt186 => ((gafferref01_TakeFrame.f k a1).bind fun bt189 => ((gafferlaw01_frames.f k).bind fun t192 => (if t192 = true then (if t182.toList = bt184.1.toList then (if t183 = bt184.2 then (if bt186.1.toList = bt189.1.toList then (if bt186.2.1.toList = bt189.2.1.toList then (some (bt186.2.2 == bt189.2.2)) else (some false)) else (some false)) else (some false)) else (some false)) else (some false)))))) = some r := H
  have A3 := Aside0.mk A30
  clear A30
  replace H := Option.bind_eq_some_iff.mp H
  obtain ⟨⟨t184, t185⟩, A40, H⟩ := H
  replace H : ((pack_TakeFrame.f k a1).bind fun bt186 => ((gafferref01_TakeFrame.f k a1).bind fun bt189 => ((gafferlaw01_frames.f k).bind fun t192 => (if t192 = true then (if t182.toList = t184.toList then (if t183 = t185 then (if bt186.1.toList = bt189.1.toList then (if bt186.2.1.toList = bt189.2.1.toList then (some (bt186.2.2 == bt189.2.2)) else (some false)) else (some false)) else (some false)) else (some false)) else (some false))))) = some r := H
  have A4 := Aside0.mk A40
  clear A40
  replace H := Option.bind_eq_some_iff.mp H
  obtain ⟨⟨t186, t187, t188⟩, A50, H⟩ := H
  replace H : ((gafferref01_TakeFrame.f k a1).bind fun bt189 => ((gafferlaw01_frames.f k).bind fun t192 => (if t192 = true then (if t182.toList = t184.toList then (if t183 = t185 then (if t186.toList = bt189.1.toList then (if t187.toList = bt189.2.1.toList then (some (t188 == bt189.2.2)) else (some false)) else (some false)) else (some false)) else (some false)) else (some false)))) = some r := H
  have A5 := Aside0.mk A50
  clear A50
  replace H := Option.bind_eq_some_iff.mp H
  obtain ⟨⟨t189, t190, t191⟩, A60, H⟩ := H
  replace H : ((gafferlaw01_frames.f k).bind fun t192 => (if t192 = true then (if t182.toList = t184.toList then (if t183 = t185 then (if t186.toList = t189.toList then (if t187.toList = t190.toList then (some (t188 == t191)) else (some false)) else (some false)) else (some false)) else (some false)) else (some false))) = some r := H
  have A6 := Aside0.mk A60
  clear A60
  replace H := Option.bind_eq_some_iff.mp H
  obtain ⟨t192, A70, H⟩ := H
  replace H : (if t192 = true then (if t182.toList = t184.toList then (if t183 = t185 then (if t186.toList = t189.toList then (if t187.toList = t190.toList then (some (t188 == t191)) else (some false)) else (some false)) else (some false)) else (some false)) else (some false)) = some r := H
  have A7 := Aside0.mk A70
  clear A70
  by_cases c8 : t192 = true
  · subst c8
    have H1 : (if t182.toList = t184.toList then (if t183 = t185 then (if t186.toList = t189.toList then (if t187.toList = t190.toList then (some (t188 == t191)) else (some false)) else (some false)) else (some false)) else (some false)) = some r := by rw [if_pos rfl] at H; exact H
    clear H
    have H := H1
    clear H1
    by_cases c9 : t182.toList = t184.toList
    · rw [if_pos c9] at H
      have c9b0 : (t182.toList == t184.toList) = true := beq_iff_eq.mpr c9
      have c9b1 : (t182.toList != t184.toList) = false := bne_eq_false_iff_eq.mpr c9
      clear c9
      by_cases c10 : t183 = t185
      · rw [if_pos c10] at H
        have c10b0 : (t183 == t185) = true := beq_iff_eq.mpr c10
        have c10b1 : (t183 != t185) = false := bne_eq_false_iff_eq.mpr c10
        clear c10
        by_cases c11 : t186.toList = t189.toList
        · rw [if_pos c11] at H
          have c11b0 : (t186.toList == t189.toList) = true := beq_iff_eq.mpr c11
          have c11b1 : (t186.toList != t189.toList) = false := bne_eq_false_iff_eq.mpr c11
          clear c11
          by_cases c12 : t187.toList = t190.toList
          · rw [if_pos c12] at H
            have c12b0 : (t187.toList == t190.toList) = true := beq_iff_eq.mpr c12
            have c12b1 : (t187.toList != t190.toList) = false := bne_eq_false_iff_eq.mpr c12
            clear c12
            obtain rfl := Option.some.inj H
            go_enter Try.func8, Try.ntmps8
            go_wp2_with (first | ((with_reducible refine gate_callee (f := 25) rfl ?_); refine goesL_ (some 17) rfl rfl Try.func25 (by kernel_rfl) rfl #[.string a0] rfl (by (try simp only [List.map_toArray, List.map_cons, List.map_nil]); first | done | rfl | (simp only [List.length_drop, List.length_take]; rfl)) ?_; (with_reducible refine (pack_Frame.calls k a0 t182 t183 _ A3.out).mono ?_); rintro e w13 ⟨rfl, hb⟩; refine ⟨_, rfl, ?_⟩; have n0_ := Aside0.mk (below_step (by repeat (first | (with_reducible first | exact HB.out | apply below_alloc | apply pw_below_drewN | apply below_drew1) | exact HB.out)) hb); clear HB; have HB := n0_; clear n0_; (try clear hb); (try clear hb2); (try clear hk); (try clear hi)) | ((with_reducible refine gate_callee (f := 26) rfl ?_); refine goesL_ (some 22) rfl rfl Try.func26 (by kernel_rfl) rfl #[.string a0] rfl (by (try simp only [List.map_toArray, List.map_cons, List.map_nil]); first | done | rfl | (simp only [List.length_drop, List.length_take]; rfl)) ?_; (with_reducible refine (gafferref01_Frame.calls k a0 t184 t185 _ A4.out).mono ?_); rintro e w14 ⟨rfl, hb⟩; refine ⟨_, rfl, ?_⟩; have n0_ := Aside0.mk (below_step (by repeat (first | (with_reducible first | exact HB.out | apply below_alloc | apply pw_below_drewN | apply below_drew1) | exact HB.out)) hb); clear HB; have HB := n0_; clear n0_; (try clear hb); (try clear hb2); (try clear hk); (try clear hi)) | ((with_reducible refine gate_callee (f := 27) rfl ?_); refine goesL_ (some 27) rfl rfl Try.func27 (by kernel_rfl) rfl #[.string a1] rfl (by (try simp only [List.map_toArray, List.map_cons, List.map_nil]); first | done | rfl | (simp only [List.length_drop, List.length_take]; rfl)) ?_; (with_reducible refine (pack_TakeFrame.calls k a1 t186 t187 t188 _ A5.out).mono ?_); rintro e w15 ⟨rfl, hb⟩; refine ⟨_, rfl, ?_⟩; have n0_ := Aside0.mk (below_step (by repeat (first | (with_reducible first | exact HB.out | apply below_alloc | apply pw_below_drewN | apply below_drew1) | exact HB.out)) hb); clear HB; have HB := n0_; clear n0_; (try clear hb); (try clear hb2); (try clear hk); (try clear hi)) | ((with_reducible refine gate_callee (f := 28) rfl ?_); refine goesL_ (some 33) rfl rfl Try.func28 (by kernel_rfl) rfl #[.string a1] rfl (by (try simp only [List.map_toArray, List.map_cons, List.map_nil]); first | done | rfl | (simp only [List.length_drop, List.length_take]; rfl)) ?_; (with_reducible refine (gafferref01_TakeFrame.calls k a1 t189 t190 t191 _ A6.out).mono ?_); rintro e w16 ⟨rfl, hb⟩; refine ⟨_, rfl, ?_⟩; have n0_ := Aside0.mk (below_step (by repeat (first | (with_reducible first | exact HB.out | apply below_alloc | apply pw_below_drewN | apply below_drew1) | exact HB.out)) hb); clear HB; have HB := n0_; clear n0_; (try clear hb); (try clear hb2); (try clear hk); (try clear hi)) | ((with_reducible refine gate_callee (f := 29) rfl ?_); refine goesL_ (some 37) rfl rfl Try.func29 (by kernel_rfl) rfl #[] rfl (by (try simp only [List.map_toArray, List.map_cons, List.map_nil]); first | done | rfl | (simp only [List.length_drop, List.length_take]; rfl)) ?_; (with_reducible refine (gafferlaw01_frames.calls k  true _ A7.out).mono ?_); rintro e w17 ⟨rfl, hb⟩; refine ⟨_, rfl, ?_⟩; have n0_ := Aside0.mk (below_step (by repeat (first | (with_reducible first | exact HB.out | apply below_alloc | apply pw_below_drewN | apply below_drew1) | exact HB.out)) hb); clear HB; have HB := n0_; clear n0_; (try clear hb); (try clear hb2); (try clear hk); (try clear hi)))
            go_ret
            exact ⟨by first | rfl | (simp [errW_none, errW_some] <;> rfl) | (simp [*, errW_none, errW_some] <;> rfl), by repeat (first | (with_reducible first | exact HB.out | apply below_alloc | apply pw_below_drewN | apply below_drew1) | exact HB.out)⟩
          · rw [if_neg c12] at H
            have c12b0 : (t187.toList == t190.toList) = false := beq_eq_false_iff_ne.mpr c12
            have c12b1 : (t187.toList != t190.toList) = true := bne_iff_ne.mpr c12
            obtain rfl := Option.some.inj H
            go_enter Try.func8, Try.ntmps8
            go_wp2_with (first | ((with_reducible refine gate_callee (f := 25) rfl ?_); refine goesL_ (some 17) rfl rfl Try.func25 (by kernel_rfl) rfl #[.string a0] rfl (by (try simp only [List.map_toArray, List.map_cons, List.map_nil]); first | done | rfl | (simp only [List.length_drop, List.length_take]; rfl)) ?_; (with_reducible refine (pack_Frame.calls k a0 t182 t183 _ A3.out).mono ?_); rintro e w18 ⟨rfl, hb⟩; refine ⟨_, rfl, ?_⟩; have n0_ := Aside0.mk (below_step (by repeat (first | (with_reducible first | exact HB.out | apply below_alloc | apply pw_below_drewN | apply below_drew1) | exact HB.out)) hb); clear HB; have HB := n0_; clear n0_; (try clear hb); (try clear hb2); (try clear hk); (try clear hi)) | ((with_reducible refine gate_callee (f := 26) rfl ?_); refine goesL_ (some 22) rfl rfl Try.func26 (by kernel_rfl) rfl #[.string a0] rfl (by (try simp only [List.map_toArray, List.map_cons, List.map_nil]); first | done | rfl | (simp only [List.length_drop, List.length_take]; rfl)) ?_; (with_reducible refine (gafferref01_Frame.calls k a0 t184 t185 _ A4.out).mono ?_); rintro e w19 ⟨rfl, hb⟩; refine ⟨_, rfl, ?_⟩; have n0_ := Aside0.mk (below_step (by repeat (first | (with_reducible first | exact HB.out | apply below_alloc | apply pw_below_drewN | apply below_drew1) | exact HB.out)) hb); clear HB; have HB := n0_; clear n0_; (try clear hb); (try clear hb2); (try clear hk); (try clear hi)) | ((with_reducible refine gate_callee (f := 27) rfl ?_); refine goesL_ (some 27) rfl rfl Try.func27 (by kernel_rfl) rfl #[.string a1] rfl (by (try simp only [List.map_toArray, List.map_cons, List.map_nil]); first | done | rfl | (simp only [List.length_drop, List.length_take]; rfl)) ?_; (with_reducible refine (pack_TakeFrame.calls k a1 t186 t187 t188 _ A5.out).mono ?_); rintro e w20 ⟨rfl, hb⟩; refine ⟨_, rfl, ?_⟩; have n0_ := Aside0.mk (below_step (by repeat (first | (with_reducible first | exact HB.out | apply below_alloc | apply pw_below_drewN | apply below_drew1) | exact HB.out)) hb); clear HB; have HB := n0_; clear n0_; (try clear hb); (try clear hb2); (try clear hk); (try clear hi)) | ((with_reducible refine gate_callee (f := 28) rfl ?_); refine goesL_ (some 33) rfl rfl Try.func28 (by kernel_rfl) rfl #[.string a1] rfl (by (try simp only [List.map_toArray, List.map_cons, List.map_nil]); first | done | rfl | (simp only [List.length_drop, List.length_take]; rfl)) ?_; (with_reducible refine (gafferref01_TakeFrame.calls k a1 t189 t190 t191 _ A6.out).mono ?_); rintro e w21 ⟨rfl, hb⟩; refine ⟨_, rfl, ?_⟩; have n0_ := Aside0.mk (below_step (by repeat (first | (with_reducible first | exact HB.out | apply below_alloc | apply pw_below_drewN | apply below_drew1) | exact HB.out)) hb); clear HB; have HB := n0_; clear n0_; (try clear hb); (try clear hb2); (try clear hk); (try clear hi)) | ((with_reducible refine gate_callee (f := 29) rfl ?_); refine goesL_ (some 37) rfl rfl Try.func29 (by kernel_rfl) rfl #[] rfl (by (try simp only [List.map_toArray, List.map_cons, List.map_nil]); first | done | rfl | (simp only [List.length_drop, List.length_take]; rfl)) ?_; (with_reducible refine (gafferlaw01_frames.calls k  true _ A7.out).mono ?_); rintro e w22 ⟨rfl, hb⟩; refine ⟨_, rfl, ?_⟩; have n0_ := Aside0.mk (below_step (by repeat (first | (with_reducible first | exact HB.out | apply below_alloc | apply pw_below_drewN | apply below_drew1) | exact HB.out)) hb); clear HB; have HB := n0_; clear n0_; (try clear hb); (try clear hb2); (try clear hk); (try clear hi)))
            go_ret
            exact ⟨by first | rfl | (simp [errW_none, errW_some] <;> rfl) | (simp [*, errW_none, errW_some] <;> rfl), by repeat (first | (with_reducible first | exact HB.out | apply below_alloc | apply pw_below_drewN | apply below_drew1) | exact HB.out)⟩
        · rw [if_neg c11] at H
          have c11b0 : (t186.toList == t189.toList) = false := beq_eq_false_iff_ne.mpr c11
          have c11b1 : (t186.toList != t189.toList) = true := bne_iff_ne.mpr c11
          obtain rfl := Option.some.inj H
          go_enter Try.func8, Try.ntmps8
          go_wp2_with (first | ((with_reducible refine gate_callee (f := 25) rfl ?_); refine goesL_ (some 17) rfl rfl Try.func25 (by kernel_rfl) rfl #[.string a0] rfl (by (try simp only [List.map_toArray, List.map_cons, List.map_nil]); first | done | rfl | (simp only [List.length_drop, List.length_take]; rfl)) ?_; (with_reducible refine (pack_Frame.calls k a0 t182 t183 _ A3.out).mono ?_); rintro e w23 ⟨rfl, hb⟩; refine ⟨_, rfl, ?_⟩; have n0_ := Aside0.mk (below_step (by repeat (first | (with_reducible first | exact HB.out | apply below_alloc | apply pw_below_drewN | apply below_drew1) | exact HB.out)) hb); clear HB; have HB := n0_; clear n0_; (try clear hb); (try clear hb2); (try clear hk); (try clear hi)) | ((with_reducible refine gate_callee (f := 26) rfl ?_); refine goesL_ (some 22) rfl rfl Try.func26 (by kernel_rfl) rfl #[.string a0] rfl (by (try simp only [List.map_toArray, List.map_cons, List.map_nil]); first | done | rfl | (simp only [List.length_drop, List.length_take]; rfl)) ?_; (with_reducible refine (gafferref01_Frame.calls k a0 t184 t185 _ A4.out).mono ?_); rintro e w24 ⟨rfl, hb⟩; refine ⟨_, rfl, ?_⟩; have n0_ := Aside0.mk (below_step (by repeat (first | (with_reducible first | exact HB.out | apply below_alloc | apply pw_below_drewN | apply below_drew1) | exact HB.out)) hb); clear HB; have HB := n0_; clear n0_; (try clear hb); (try clear hb2); (try clear hk); (try clear hi)) | ((with_reducible refine gate_callee (f := 27) rfl ?_); refine goesL_ (some 27) rfl rfl Try.func27 (by kernel_rfl) rfl #[.string a1] rfl (by (try simp only [List.map_toArray, List.map_cons, List.map_nil]); first | done | rfl | (simp only [List.length_drop, List.length_take]; rfl)) ?_; (with_reducible refine (pack_TakeFrame.calls k a1 t186 t187 t188 _ A5.out).mono ?_); rintro e w25 ⟨rfl, hb⟩; refine ⟨_, rfl, ?_⟩; have n0_ := Aside0.mk (below_step (by repeat (first | (with_reducible first | exact HB.out | apply below_alloc | apply pw_below_drewN | apply below_drew1) | exact HB.out)) hb); clear HB; have HB := n0_; clear n0_; (try clear hb); (try clear hb2); (try clear hk); (try clear hi)) | ((with_reducible refine gate_callee (f := 28) rfl ?_); refine goesL_ (some 33) rfl rfl Try.func28 (by kernel_rfl) rfl #[.string a1] rfl (by (try simp only [List.map_toArray, List.map_cons, List.map_nil]); first | done | rfl | (simp only [List.length_drop, List.length_take]; rfl)) ?_; (with_reducible refine (gafferref01_TakeFrame.calls k a1 t189 t190 t191 _ A6.out).mono ?_); rintro e w26 ⟨rfl, hb⟩; refine ⟨_, rfl, ?_⟩; have n0_ := Aside0.mk (below_step (by repeat (first | (with_reducible first | exact HB.out | apply below_alloc | apply pw_below_drewN | apply below_drew1) | exact HB.out)) hb); clear HB; have HB := n0_; clear n0_; (try clear hb); (try clear hb2); (try clear hk); (try clear hi)) | ((with_reducible refine gate_callee (f := 29) rfl ?_); refine goesL_ (some 37) rfl rfl Try.func29 (by kernel_rfl) rfl #[] rfl (by (try simp only [List.map_toArray, List.map_cons, List.map_nil]); first | done | rfl | (simp only [List.length_drop, List.length_take]; rfl)) ?_; (with_reducible refine (gafferlaw01_frames.calls k  true _ A7.out).mono ?_); rintro e w27 ⟨rfl, hb⟩; refine ⟨_, rfl, ?_⟩; have n0_ := Aside0.mk (below_step (by repeat (first | (with_reducible first | exact HB.out | apply below_alloc | apply pw_below_drewN | apply below_drew1) | exact HB.out)) hb); clear HB; have HB := n0_; clear n0_; (try clear hb); (try clear hb2); (try clear hk); (try clear hi)))
          go_ret
          exact ⟨by first | rfl | (simp [errW_none, errW_some] <;> rfl) | (simp [*, errW_none, errW_some] <;> rfl), by repeat (first | (with_reducible first | exact HB.out | apply below_alloc | apply pw_below_drewN | apply below_drew1) | exact HB.out)⟩
      · rw [if_neg c10] at H
        have c10b0 : (t183 == t185) = false := beq_eq_false_iff_ne.mpr c10
        have c10b1 : (t183 != t185) = true := bne_iff_ne.mpr c10
        obtain rfl := Option.some.inj H
        go_enter Try.func8, Try.ntmps8
        go_wp2_with (first | ((with_reducible refine gate_callee (f := 25) rfl ?_); refine goesL_ (some 17) rfl rfl Try.func25 (by kernel_rfl) rfl #[.string a0] rfl (by (try simp only [List.map_toArray, List.map_cons, List.map_nil]); first | done | rfl | (simp only [List.length_drop, List.length_take]; rfl)) ?_; (with_reducible refine (pack_Frame.calls k a0 t182 t183 _ A3.out).mono ?_); rintro e w28 ⟨rfl, hb⟩; refine ⟨_, rfl, ?_⟩; have n0_ := Aside0.mk (below_step (by repeat (first | (with_reducible first | exact HB.out | apply below_alloc | apply pw_below_drewN | apply below_drew1) | exact HB.out)) hb); clear HB; have HB := n0_; clear n0_; (try clear hb); (try clear hb2); (try clear hk); (try clear hi)) | ((with_reducible refine gate_callee (f := 26) rfl ?_); refine goesL_ (some 22) rfl rfl Try.func26 (by kernel_rfl) rfl #[.string a0] rfl (by (try simp only [List.map_toArray, List.map_cons, List.map_nil]); first | done | rfl | (simp only [List.length_drop, List.length_take]; rfl)) ?_; (with_reducible refine (gafferref01_Frame.calls k a0 t184 t185 _ A4.out).mono ?_); rintro e w29 ⟨rfl, hb⟩; refine ⟨_, rfl, ?_⟩; have n0_ := Aside0.mk (below_step (by repeat (first | (with_reducible first | exact HB.out | apply below_alloc | apply pw_below_drewN | apply below_drew1) | exact HB.out)) hb); clear HB; have HB := n0_; clear n0_; (try clear hb); (try clear hb2); (try clear hk); (try clear hi)) | ((with_reducible refine gate_callee (f := 27) rfl ?_); refine goesL_ (some 27) rfl rfl Try.func27 (by kernel_rfl) rfl #[.string a1] rfl (by (try simp only [List.map_toArray, List.map_cons, List.map_nil]); first | done | rfl | (simp only [List.length_drop, List.length_take]; rfl)) ?_; (with_reducible refine (pack_TakeFrame.calls k a1 t186 t187 t188 _ A5.out).mono ?_); rintro e w30 ⟨rfl, hb⟩; refine ⟨_, rfl, ?_⟩; have n0_ := Aside0.mk (below_step (by repeat (first | (with_reducible first | exact HB.out | apply below_alloc | apply pw_below_drewN | apply below_drew1) | exact HB.out)) hb); clear HB; have HB := n0_; clear n0_; (try clear hb); (try clear hb2); (try clear hk); (try clear hi)) | ((with_reducible refine gate_callee (f := 28) rfl ?_); refine goesL_ (some 33) rfl rfl Try.func28 (by kernel_rfl) rfl #[.string a1] rfl (by (try simp only [List.map_toArray, List.map_cons, List.map_nil]); first | done | rfl | (simp only [List.length_drop, List.length_take]; rfl)) ?_; (with_reducible refine (gafferref01_TakeFrame.calls k a1 t189 t190 t191 _ A6.out).mono ?_); rintro e w31 ⟨rfl, hb⟩; refine ⟨_, rfl, ?_⟩; have n0_ := Aside0.mk (below_step (by repeat (first | (with_reducible first | exact HB.out | apply below_alloc | apply pw_below_drewN | apply below_drew1) | exact HB.out)) hb); clear HB; have HB := n0_; clear n0_; (try clear hb); (try clear hb2); (try clear hk); (try clear hi)) | ((with_reducible refine gate_callee (f := 29) rfl ?_); refine goesL_ (some 37) rfl rfl Try.func29 (by kernel_rfl) rfl #[] rfl (by (try simp only [List.map_toArray, List.map_cons, List.map_nil]); first | done | rfl | (simp only [List.length_drop, List.length_take]; rfl)) ?_; (with_reducible refine (gafferlaw01_frames.calls k  true _ A7.out).mono ?_); rintro e w32 ⟨rfl, hb⟩; refine ⟨_, rfl, ?_⟩; have n0_ := Aside0.mk (below_step (by repeat (first | (with_reducible first | exact HB.out | apply below_alloc | apply pw_below_drewN | apply below_drew1) | exact HB.out)) hb); clear HB; have HB := n0_; clear n0_; (try clear hb); (try clear hb2); (try clear hk); (try clear hi)))
        go_ret
        exact ⟨by first | rfl | (simp [errW_none, errW_some] <;> rfl) | (simp [*, errW_none, errW_some] <;> rfl), by repeat (first | (with_reducible first | exact HB.out | apply below_alloc | apply pw_below_drewN | apply below_drew1) | exact HB.out)⟩
    · rw [if_neg c9] at H
      have c9b0 : (t182.toList == t184.toList) = false := beq_eq_false_iff_ne.mpr c9
      have c9b1 : (t182.toList != t184.toList) = true := bne_iff_ne.mpr c9
      obtain rfl := Option.some.inj H
      go_enter Try.func8, Try.ntmps8
      go_wp2_with (first | ((with_reducible refine gate_callee (f := 25) rfl ?_); refine goesL_ (some 17) rfl rfl Try.func25 (by kernel_rfl) rfl #[.string a0] rfl (by (try simp only [List.map_toArray, List.map_cons, List.map_nil]); first | done | rfl | (simp only [List.length_drop, List.length_take]; rfl)) ?_; (with_reducible refine (pack_Frame.calls k a0 t182 t183 _ A3.out).mono ?_); rintro e w33 ⟨rfl, hb⟩; refine ⟨_, rfl, ?_⟩; have n0_ := Aside0.mk (below_step (by repeat (first | (with_reducible first | exact HB.out | apply below_alloc | apply pw_below_drewN | apply below_drew1) | exact HB.out)) hb); clear HB; have HB := n0_; clear n0_; (try clear hb); (try clear hb2); (try clear hk); (try clear hi)) | ((with_reducible refine gate_callee (f := 26) rfl ?_); refine goesL_ (some 22) rfl rfl Try.func26 (by kernel_rfl) rfl #[.string a0] rfl (by (try simp only [List.map_toArray, List.map_cons, List.map_nil]); first | done | rfl | (simp only [List.length_drop, List.length_take]; rfl)) ?_; (with_reducible refine (gafferref01_Frame.calls k a0 t184 t185 _ A4.out).mono ?_); rintro e w34 ⟨rfl, hb⟩; refine ⟨_, rfl, ?_⟩; have n0_ := Aside0.mk (below_step (by repeat (first | (with_reducible first | exact HB.out | apply below_alloc | apply pw_below_drewN | apply below_drew1) | exact HB.out)) hb); clear HB; have HB := n0_; clear n0_; (try clear hb); (try clear hb2); (try clear hk); (try clear hi)) | ((with_reducible refine gate_callee (f := 27) rfl ?_); refine goesL_ (some 27) rfl rfl Try.func27 (by kernel_rfl) rfl #[.string a1] rfl (by (try simp only [List.map_toArray, List.map_cons, List.map_nil]); first | done | rfl | (simp only [List.length_drop, List.length_take]; rfl)) ?_; (with_reducible refine (pack_TakeFrame.calls k a1 t186 t187 t188 _ A5.out).mono ?_); rintro e w35 ⟨rfl, hb⟩; refine ⟨_, rfl, ?_⟩; have n0_ := Aside0.mk (below_step (by repeat (first | (with_reducible first | exact HB.out | apply below_alloc | apply pw_below_drewN | apply below_drew1) | exact HB.out)) hb); clear HB; have HB := n0_; clear n0_; (try clear hb); (try clear hb2); (try clear hk); (try clear hi)) | ((with_reducible refine gate_callee (f := 28) rfl ?_); refine goesL_ (some 33) rfl rfl Try.func28 (by kernel_rfl) rfl #[.string a1] rfl (by (try simp only [List.map_toArray, List.map_cons, List.map_nil]); first | done | rfl | (simp only [List.length_drop, List.length_take]; rfl)) ?_; (with_reducible refine (gafferref01_TakeFrame.calls k a1 t189 t190 t191 _ A6.out).mono ?_); rintro e w36 ⟨rfl, hb⟩; refine ⟨_, rfl, ?_⟩; have n0_ := Aside0.mk (below_step (by repeat (first | (with_reducible first | exact HB.out | apply below_alloc | apply pw_below_drewN | apply below_drew1) | exact HB.out)) hb); clear HB; have HB := n0_; clear n0_; (try clear hb); (try clear hb2); (try clear hk); (try clear hi)) | ((with_reducible refine gate_callee (f := 29) rfl ?_); refine goesL_ (some 37) rfl rfl Try.func29 (by kernel_rfl) rfl #[] rfl (by (try simp only [List.map_toArray, List.map_cons, List.map_nil]); first | done | rfl | (simp only [List.length_drop, List.length_take]; rfl)) ?_; (with_reducible refine (gafferlaw01_frames.calls k  true _ A7.out).mono ?_); rintro e w37 ⟨rfl, hb⟩; refine ⟨_, rfl, ?_⟩; have n0_ := Aside0.mk (below_step (by repeat (first | (with_reducible first | exact HB.out | apply below_alloc | apply pw_below_drewN | apply below_drew1) | exact HB.out)) hb); clear HB; have HB := n0_; clear n0_; (try clear hb); (try clear hb2); (try clear hk); (try clear hi)))
      go_ret
      exact ⟨by first | rfl | (simp [errW_none, errW_some] <;> rfl) | (simp [*, errW_none, errW_some] <;> rfl), by repeat (first | (with_reducible first | exact HB.out | apply below_alloc | apply pw_below_drewN | apply below_drew1) | exact HB.out)⟩
  · replace c8 := Bool.eq_false_iff.mpr c8
    subst c8
    have H1 : (some false) = some r := by rw [if_neg (show ¬ (false = true) by decide)] at H; exact H
    clear H
    have H := H1
    clear H1
    obtain rfl := Option.some.inj H
    go_enter Try.func8, Try.ntmps8
    go_wp2_with (first | ((with_reducible refine gate_callee (f := 25) rfl ?_); refine goesL_ (some 17) rfl rfl Try.func25 (by kernel_rfl) rfl #[.string a0] rfl (by (try simp only [List.map_toArray, List.map_cons, List.map_nil]); first | done | rfl | (simp only [List.length_drop, List.length_take]; rfl)) ?_; (with_reducible refine (pack_Frame.calls k a0 t182 t183 _ A3.out).mono ?_); rintro e w38 ⟨rfl, hb⟩; refine ⟨_, rfl, ?_⟩; have n0_ := Aside0.mk (below_step (by repeat (first | (with_reducible first | exact HB.out | apply below_alloc | apply pw_below_drewN | apply below_drew1) | exact HB.out)) hb); clear HB; have HB := n0_; clear n0_; (try clear hb); (try clear hb2); (try clear hk); (try clear hi)) | ((with_reducible refine gate_callee (f := 26) rfl ?_); refine goesL_ (some 22) rfl rfl Try.func26 (by kernel_rfl) rfl #[.string a0] rfl (by (try simp only [List.map_toArray, List.map_cons, List.map_nil]); first | done | rfl | (simp only [List.length_drop, List.length_take]; rfl)) ?_; (with_reducible refine (gafferref01_Frame.calls k a0 t184 t185 _ A4.out).mono ?_); rintro e w39 ⟨rfl, hb⟩; refine ⟨_, rfl, ?_⟩; have n0_ := Aside0.mk (below_step (by repeat (first | (with_reducible first | exact HB.out | apply below_alloc | apply pw_below_drewN | apply below_drew1) | exact HB.out)) hb); clear HB; have HB := n0_; clear n0_; (try clear hb); (try clear hb2); (try clear hk); (try clear hi)) | ((with_reducible refine gate_callee (f := 27) rfl ?_); refine goesL_ (some 27) rfl rfl Try.func27 (by kernel_rfl) rfl #[.string a1] rfl (by (try simp only [List.map_toArray, List.map_cons, List.map_nil]); first | done | rfl | (simp only [List.length_drop, List.length_take]; rfl)) ?_; (with_reducible refine (pack_TakeFrame.calls k a1 t186 t187 t188 _ A5.out).mono ?_); rintro e w40 ⟨rfl, hb⟩; refine ⟨_, rfl, ?_⟩; have n0_ := Aside0.mk (below_step (by repeat (first | (with_reducible first | exact HB.out | apply below_alloc | apply pw_below_drewN | apply below_drew1) | exact HB.out)) hb); clear HB; have HB := n0_; clear n0_; (try clear hb); (try clear hb2); (try clear hk); (try clear hi)) | ((with_reducible refine gate_callee (f := 28) rfl ?_); refine goesL_ (some 33) rfl rfl Try.func28 (by kernel_rfl) rfl #[.string a1] rfl (by (try simp only [List.map_toArray, List.map_cons, List.map_nil]); first | done | rfl | (simp only [List.length_drop, List.length_take]; rfl)) ?_; (with_reducible refine (gafferref01_TakeFrame.calls k a1 t189 t190 t191 _ A6.out).mono ?_); rintro e w41 ⟨rfl, hb⟩; refine ⟨_, rfl, ?_⟩; have n0_ := Aside0.mk (below_step (by repeat (first | (with_reducible first | exact HB.out | apply below_alloc | apply pw_below_drewN | apply below_drew1) | exact HB.out)) hb); clear HB; have HB := n0_; clear n0_; (try clear hb); (try clear hb2); (try clear hk); (try clear hi)) | ((with_reducible refine gate_callee (f := 29) rfl ?_); refine goesL_ (some 37) rfl rfl Try.func29 (by kernel_rfl) rfl #[] rfl (by (try simp only [List.map_toArray, List.map_cons, List.map_nil]); first | done | rfl | (simp only [List.length_drop, List.length_take]; rfl)) ?_; (with_reducible refine (gafferlaw01_frames.calls k  false _ A7.out).mono ?_); rintro e w42 ⟨rfl, hb⟩; refine ⟨_, rfl, ?_⟩; have n0_ := Aside0.mk (below_step (by repeat (first | (with_reducible first | exact HB.out | apply below_alloc | apply pw_below_drewN | apply below_drew1) | exact HB.out)) hb); clear HB; have HB := n0_; clear n0_; (try clear hb); (try clear hb2); (try clear hk); (try clear hi)))
    go_ret
    exact ⟨by first | rfl | (simp [errW_none, errW_some] <;> rfl) | (simp [*, errW_none, errW_some] <;> rfl), by repeat (first | (with_reducible first | exact HB.out | apply below_alloc | apply pw_below_drewN | apply below_drew1) | exact HB.out)⟩

/-- THE ONE PURE STATEMENT of gafferlaw01_PackFrames: yours. -/
def gafferlaw01_PackFrames.Pure : Prop := ∀ (a0 : ByteArray) (a1 : ByteArray), a0.size ≤ 140737488351232 → a1.size ≤ 140737488351232 → ∃ k, gafferlaw01_PackFrames.f k a0 a1 = some true
theorem gafferlaw01_PackFrames.walk (P : gafferlaw01_PackFrames.Pure) (a0 : ByteArray) (a1 : ByteArray) (w : World) (w0 : a0.size ≤ 140737488351232) (w1 : a1.size ≤ 140737488351232) :
    Calls Try.prog 8 #[.string a0, .string a1] w fun e w' => e = .returned (.bool true) ∧ Below w.heap.size w w' := by
  obtain ⟨k, h⟩ := P a0 a1 w0 w1
  refine (gafferlaw01_PackFrames.calls k a0 a1 true w h).mono ?_
  rintro e w' ⟨rfl, hd⟩
  exact ⟨rfl, hd⟩

-- NOT PRINTED: function 9 (gafferlaw01_PackTurned)

end Go.Proofs.Ytkmkbhiipieolaa.PA
