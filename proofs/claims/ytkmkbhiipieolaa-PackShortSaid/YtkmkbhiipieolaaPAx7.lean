-- Written for this claim by a program of this session. Lean checks it.
import Derived.Test.YtkmkbhiipieolaaPAx0
import Derived.Test.YtkmkbhiipieolaaPAx1
import Derived.Test.YtkmkbhiipieolaaPAx2
import Derived.Test.YtkmkbhiipieolaaPAx4
import Derived.Test.YtkmkbhiipieolaaPAx5
namespace Go.Proofs.Ytkmkbhiipieolaa.PA
open Go.RowKit Go.Proofs.YtkmkbhiipieolaaW.PrintWords Go.Proofs.YtkmkbhiipieolaaW.PrintLast Go.Proofs.YtkmkbhiipieolaaW.PrintMore
attribute [local go_sem] max2_int min2_int max_two min_two max_three min_three max_four min_four   -- for this text's walks alone
set_option linter.unusedVariables false
set_option linter.unusedSimpArgs false

/-! ### gafferlaw01_PackShort: function 12 -/
mutual
def gafferlaw01_PackShort.j0 : Nat → Int → ByteArray → Int → Bool → Option (Bool)
  | 0, _, _, _, _ => none
  | k + 1, x0, x1, x2, x34 => if x34 = true then ((gafferlaw01_numbers.f k).bind fun t224 => (if t224 = true then ((gafferlaw01_frames.f k).bind fun t225 => (some t225)) else (some false))) else ((pack_Frame.f k x1).bind fun bt226 => ((pack_Number.f k x0).bind fun t228 => ((pack_Text.f k x1).bind fun t229 => ((some (([t228, t229, bt226.1] : List ByteArray) : List ByteArray)).bind fun y230 => (gafferlaw01_PackShort.l0 k x0 x1 x2 bt226.1 y230 (y230.length : Int) 0)))))
def gafferlaw01_PackShort.l0 : Nat → Int → ByteArray → Int → ByteArray → List ByteArray → Int → Int → Option (Bool)
  | 0, _, _, _, _, _, _, _ => none
  | k + 1, x0, x1, x2, x7, x49, x50, x51 => if x51 < x50 then (if 0 ≤ x51 then (if x51 < (x49.length : Int) then (if x2 ≥ ((rdOf ByteArray.empty x49 x51).size : Int) then (gafferlaw01_PackShort.l0 k x0 x1 x2 x7 x49 x50 (wrap64 (x51 + 1))) else (if 0 ≤ x2 then (if x2 ≤ ((rdOf ByteArray.empty x49 x51).size : Int) then ((pack_TakeNumber.f k ((rdOf ByteArray.empty x49 x51).extract 0 (x2 : Int).toNat)).bind fun bt234 => ((pack_TakeText.f k ((rdOf ByteArray.empty x49 x51).extract 0 (x2 : Int).toNat)).bind fun bt237 => ((pack_TakeFrame.f k ((rdOf ByteArray.empty x49 x51).extract 0 (x2 : Int).toNat)).bind fun bt240 => (if (rdOf ByteArray.empty x49 x51).toList = x7.toList then (if bt240.2.2 = 3 then ((pack_Text.f k x1).bind fun t243 => (if (rdOf ByteArray.empty x49 x51).toList = t243.toList then (if bt237.2.2 = 3 then ((pack_Number.f k x0).bind fun t244 => (if (rdOf ByteArray.empty x49 x51).toList = t244.toList then (if bt234.2.2 = 3 then (gafferlaw01_PackShort.l0 k x0 x1 x2 x7 x49 x50 (wrap64 (x51 + 1))) else (some false)) else (gafferlaw01_PackShort.l0 k x0 x1 x2 x7 x49 x50 (wrap64 (x51 + 1))))) else (some false)) else ((pack_Number.f k x0).bind fun t245 => (if (rdOf ByteArray.empty x49 x51).toList = t245.toList then (if bt234.2.2 = 3 then (gafferlaw01_PackShort.l0 k x0 x1 x2 x7 x49 x50 (wrap64 (x51 + 1))) else (some false)) else (gafferlaw01_PackShort.l0 k x0 x1 x2 x7 x49 x50 (wrap64 (x51 + 1))))))) else (some false)) else ((pack_Text.f k x1).bind fun t246 => (if (rdOf ByteArray.empty x49 x51).toList = t246.toList then (if bt237.2.2 = 3 then ((pack_Number.f k x0).bind fun t247 => (if (rdOf ByteArray.empty x49 x51).toList = t247.toList then (if bt234.2.2 = 3 then (gafferlaw01_PackShort.l0 k x0 x1 x2 x7 x49 x50 (wrap64 (x51 + 1))) else (some false)) else (gafferlaw01_PackShort.l0 k x0 x1 x2 x7 x49 x50 (wrap64 (x51 + 1))))) else (some false)) else ((pack_Number.f k x0).bind fun t248 => (if (rdOf ByteArray.empty x49 x51).toList = t248.toList then (if bt234.2.2 = 3 then (gafferlaw01_PackShort.l0 k x0 x1 x2 x7 x49 x50 (wrap64 (x51 + 1))) else (some false)) else (gafferlaw01_PackShort.l0 k x0 x1 x2 x7 x49 x50 (wrap64 (x51 + 1))))))))))) else (none)) else (none))) else (none)) else (none)) else (some true)
end
def gafferlaw01_PackShort.f (k : Nat) (a0 : Int) (a1 : ByteArray) (a2 : Int) : Option (Bool) := (gafferlaw01_numbers.f k).bind fun t222 => (if t222 = true then ((gafferlaw01_frames.f k).bind fun t223 => (if t223 = true then (if (a1.size : Int) > 65536 then (gafferlaw01_PackShort.j0 k a0 a1 a2 true) else (gafferlaw01_PackShort.j0 k a0 a1 a2 (decide (a2 < 0)))) else (gafferlaw01_PackShort.j0 k a0 a1 a2 true))) else (gafferlaw01_PackShort.j0 k a0 a1 a2 true))
theorem gafferlaw01_PackShort.mono_l : ∀ k, (∀ y0 y1 y2 y3, LeO (gafferlaw01_PackShort.j0 k y0 y1 y2 y3) (gafferlaw01_PackShort.j0 (k + 1) y0 y1 y2 y3)) ∧ (∀ y0 y1 y2 y3 y4 y5 y6, LeO (gafferlaw01_PackShort.l0 k y0 y1 y2 y3 y4 y5 y6) (gafferlaw01_PackShort.l0 (k + 1) y0 y1 y2 y3 y4 y5 y6))
  | 0 => ⟨fun _ _ _ _ r h => by simp [gafferlaw01_PackShort.j0] at h, fun _ _ _ _ _ _ _ r h => by simp [gafferlaw01_PackShort.l0] at h⟩
  | k + 1 => by
    obtain ⟨ih0, ih1⟩ := gafferlaw01_PackShort.mono_l k
    refine ⟨?_, ?_⟩
    · intro y0 y1 y2 y3
      unfold gafferlaw01_PackShort.j0
      repeat' first
      | (with_reducible exact ih0 _ _ _ _)
      | (with_reducible exact ih1 _ _ _ _ _ _ _)
      | (with_reducible exact gafferlaw01_frames.mono _)
      | (with_reducible exact gafferlaw01_numbers.mono _)
      | (with_reducible exact pack_Frame.mono _ _)
      | (with_reducible exact pack_Number.mono _ _)
      | (with_reducible exact pack_TakeFrame.mono _ _)
      | (with_reducible exact pack_TakeNumber.mono _ _)
      | (with_reducible exact pack_TakeText.mono _ _)
      | (with_reducible exact pack_Text.mono _ _)
      | (with_reducible exact LeO.refl _)
      | (with_reducible exact LeO.none _)
      | (with_reducible refine LeO.ite ?_ ?_)
      | (with_reducible refine LeO.bind ?_ (fun _ => ?_))
      | exact ih0 _ _ _ _
      | exact ih1 _ _ _ _ _ _ _
      | exact gafferlaw01_frames.mono _
      | exact gafferlaw01_numbers.mono _
      | exact pack_Frame.mono _ _
      | exact pack_Number.mono _ _
      | exact pack_TakeFrame.mono _ _
      | exact pack_TakeNumber.mono _ _
      | exact pack_TakeText.mono _ _
      | exact pack_Text.mono _ _
      | exact LeO.none _
      | refine LeO.ite ?_ ?_
      | refine LeO.bind ?_ (fun _ => ?_)
    · intro y0 y1 y2 y3 y4 y5 y6
      unfold gafferlaw01_PackShort.l0
      repeat' first
      | (with_reducible exact ih0 _ _ _ _)
      | (with_reducible exact ih1 _ _ _ _ _ _ _)
      | (with_reducible exact gafferlaw01_frames.mono _)
      | (with_reducible exact gafferlaw01_numbers.mono _)
      | (with_reducible exact pack_Frame.mono _ _)
      | (with_reducible exact pack_Number.mono _ _)
      | (with_reducible exact pack_TakeFrame.mono _ _)
      | (with_reducible exact pack_TakeNumber.mono _ _)
      | (with_reducible exact pack_TakeText.mono _ _)
      | (with_reducible exact pack_Text.mono _ _)
      | (with_reducible exact LeO.refl _)
      | (with_reducible exact LeO.none _)
      | (with_reducible refine LeO.ite ?_ ?_)
      | (with_reducible refine LeO.bind ?_ (fun _ => ?_))
      | exact ih0 _ _ _ _
      | exact ih1 _ _ _ _ _ _ _
      | exact gafferlaw01_frames.mono _
      | exact gafferlaw01_numbers.mono _
      | exact pack_Frame.mono _ _
      | exact pack_Number.mono _ _
      | exact pack_TakeFrame.mono _ _
      | exact pack_TakeNumber.mono _ _
      | exact pack_TakeText.mono _ _
      | exact pack_Text.mono _ _
      | exact LeO.none _
      | refine LeO.ite ?_ ?_
      | refine LeO.bind ?_ (fun _ => ?_)
theorem gafferlaw01_PackShort.mono : ∀ a0 a1 a2 k, LeO (gafferlaw01_PackShort.f k a0 a1 a2) (gafferlaw01_PackShort.f (k + 1) a0 a1 a2) := by
  intro a0 a1 a2 k
  obtain ⟨ih0, ih1⟩ := gafferlaw01_PackShort.mono_l k
  unfold gafferlaw01_PackShort.f
  repeat' first
      | (with_reducible exact ih0 _ _ _ _)
      | (with_reducible exact ih1 _ _ _ _ _ _ _)
      | (with_reducible exact gafferlaw01_frames.mono _)
      | (with_reducible exact gafferlaw01_numbers.mono _)
      | (with_reducible exact pack_Frame.mono _ _)
      | (with_reducible exact pack_Number.mono _ _)
      | (with_reducible exact pack_TakeFrame.mono _ _)
      | (with_reducible exact pack_TakeNumber.mono _ _)
      | (with_reducible exact pack_TakeText.mono _ _)
      | (with_reducible exact pack_Text.mono _ _)
      | (with_reducible exact LeO.refl _)
      | (with_reducible exact LeO.none _)
      | (with_reducible refine LeO.ite ?_ ?_)
      | (with_reducible refine LeO.bind ?_ (fun _ => ?_))
      | exact ih0 _ _ _ _
      | exact ih1 _ _ _ _ _ _ _
      | exact gafferlaw01_frames.mono _
      | exact gafferlaw01_numbers.mono _
      | exact pack_Frame.mono _ _
      | exact pack_Number.mono _ _
      | exact pack_TakeFrame.mono _ _
      | exact pack_TakeNumber.mono _ _
      | exact pack_TakeText.mono _ _
      | exact pack_Text.mono _ _
      | exact LeO.none _
      | refine LeO.ite ?_ ?_
      | refine LeO.bind ?_ (fun _ => ?_)
set_option maxHeartbeats 8000000 in
set_option maxRecDepth 100000 in
theorem gafferlaw01_PackShort.calls (k : Nat) (a0 : Int) (a1 : ByteArray) (a2 : Int) (r : Bool) (w : World) (h : gafferlaw01_PackShort.f k a0 a1 a2 = some r) :
    Calls Try.prog 12 #[.int .u64 a0, .string a1, .int .i64 a2] w fun e w' => e = .returned (.bool r) ∧ Below w.heap.size w w' := by
  have HB := Aside0.mk (Below.refl w.heap.size w)
  have H : ((gafferlaw01_numbers.f k).bind fun t222 => (if t222 = true then ((gafferlaw01_frames.f k).bind fun t223 => (if t223 = true then (if (a1.size : Int) > 65536 then (gafferlaw01_PackShort.j0 k a0 a1 a2 true) else (gafferlaw01_PackShort.j0 k a0 a1 a2 (decide (a2 < 0)))) else (gafferlaw01_PackShort.j0 k a0 a1 a2 true))) else (gafferlaw01_PackShort.j0 k a0 a1 a2 true))) = some r := h
  clear h
  have HC4 := Aside0.mk H
  clear H
  go_enter Try.func12, Try.ntmps12
  go_upto_region 1 with (fail)
  go_cut [34] (fun v34 wc => ∃ (kq : Nat) (x34_3 : Bool), v34 = .bool x34_3 ∧ Aside0 (gafferlaw01_PackShort.j0 kq a0 a1 a2 x34_3 = some r) ∧ Aside0 (kq ≤ k) ∧ Aside0 (Below w.heap.size w wc))
  case first =>
    have H := HC4.out
    clear HC4
    replace H := Option.bind_eq_some_iff.mp H
    obtain ⟨t222, A50, H⟩ := H
    replace H : (if t222 = true then ((gafferlaw01_frames.f k).bind fun t223 => (if t223 = true then (if (a1.size : Int) > 65536 then (gafferlaw01_PackShort.j0 k a0 a1 a2 true) else (gafferlaw01_PackShort.j0 k a0 a1 a2 (decide (a2 < 0)))) else (gafferlaw01_PackShort.j0 k a0 a1 a2 true))) else (gafferlaw01_PackShort.j0 k a0 a1 a2 true)) = some r := H
    have A5 := Aside0.mk A50
    clear A50
    by_cases c6 : t222 = true
    · subst c6
      have H1 : ((gafferlaw01_frames.f k).bind fun t223 => (if t223 = true then (if (a1.size : Int) > 65536 then (gafferlaw01_PackShort.j0 k a0 a1 a2 true) else (gafferlaw01_PackShort.j0 k a0 a1 a2 (decide (a2 < 0)))) else (gafferlaw01_PackShort.j0 k a0 a1 a2 true))) = some r := by rw [if_pos rfl] at H; exact H
      clear H
      have H := H1
      clear H1
      replace H := Option.bind_eq_some_iff.mp H
      obtain ⟨t223, A70, H⟩ := H
      replace H : (if t223 = true then (if (a1.size : Int) > 65536 then (gafferlaw01_PackShort.j0 k a0 a1 a2 true) else (gafferlaw01_PackShort.j0 k a0 a1 a2 (decide (a2 < 0)))) else (gafferlaw01_PackShort.j0 k a0 a1 a2 true)) = some r := H
      have A7 := Aside0.mk A70
      clear A70
      by_cases c8 : t223 = true
      · subst c8
        have H1 : (if (a1.size : Int) > 65536 then (gafferlaw01_PackShort.j0 k a0 a1 a2 true) else (gafferlaw01_PackShort.j0 k a0 a1 a2 (decide (a2 < 0)))) = some r := by rw [if_pos rfl] at H; exact H
        clear H
        have H := H1
        clear H1
        by_cases c9 : (a1.size : Int) > 65536
        · rw [if_pos c9] at H
          have c9b0 : decide (65536 < (a1.size : Int)) = true := decide_eq_true c9
          have c9b1 : decide (65536 < a1.size) = true := decide_eq_true (by omega)
          clear c9
          (first | rw [c9b0] | (simp only [i64_w, i32_w]; rw [c9b0]) | skip)
          have H' := Aside0.mk H
          clear H
          go_wp2_with (first | ((with_reducible refine gate_callee (f := 16) rfl ?_); refine goesL_ (some 20) rfl rfl Try.func16 (by kernel_rfl) rfl #[] rfl (by (try simp only [List.map_toArray, List.map_cons, List.map_nil]); first | done | rfl | (simp only [List.length_drop, List.length_take]; rfl)) ?_; (with_reducible refine (gafferlaw01_numbers.calls k  true _ A5.out).mono ?_); rintro e w10 ⟨rfl, hb⟩; refine ⟨_, rfl, ?_⟩; have n0_ := Aside0.mk (below_step (by repeat (first | (with_reducible first | exact HB.out | apply below_alloc | apply pw_below_drewN | apply below_drew1) | exact HB.out)) hb); clear HB; have HB := n0_; clear n0_; (try clear hb); (try clear hb2); (try clear hk); (try clear hi)) | (go_at_call 29; (with_reducible refine (gafferlaw01_frames.calls k  true _ A7.out).mono ?_); rintro e w11 ⟨rfl, hb⟩; have n0_ := Aside0.mk (below_step (by repeat (first | (with_reducible first | exact HB.out | apply below_alloc | apply pw_below_drewN | apply below_drew1) | exact HB.out)) hb); clear HB; have HB := n0_; clear n0_; (try clear hb); (try clear hb2); (try clear hk); (try clear hi)))
          go_meet
          case rel => exact ⟨_, (true), (by first | rfl | (simp; done) | (simp [*]; done)), H', ⟨by first | omega | exact Nat.le_refl _⟩, ⟨by repeat (first | (with_reducible first | exact HB.out | apply below_alloc | apply pw_below_drewN | apply below_drew1) | exact HB.out)⟩⟩
        · rw [if_neg c9] at H
          have c9b0 : decide (65536 < (a1.size : Int)) = false := decide_eq_false c9
          have c9b1 : decide (65536 < a1.size) = false := decide_eq_false (by omega)
          clear c9
          (first | rw [c9b0] | (simp only [i64_w, i32_w]; rw [c9b0]) | skip)
          have H' := Aside0.mk H
          clear H
          go_wp2_with (first | ((with_reducible refine gate_callee (f := 16) rfl ?_); refine goesL_ (some 20) rfl rfl Try.func16 (by kernel_rfl) rfl #[] rfl (by (try simp only [List.map_toArray, List.map_cons, List.map_nil]); first | done | rfl | (simp only [List.length_drop, List.length_take]; rfl)) ?_; (with_reducible refine (gafferlaw01_numbers.calls k  true _ A5.out).mono ?_); rintro e w12 ⟨rfl, hb⟩; refine ⟨_, rfl, ?_⟩; have n0_ := Aside0.mk (below_step (by repeat (first | (with_reducible first | exact HB.out | apply below_alloc | apply pw_below_drewN | apply below_drew1) | exact HB.out)) hb); clear HB; have HB := n0_; clear n0_; (try clear hb); (try clear hb2); (try clear hk); (try clear hi)) | (go_at_call 29; (with_reducible refine (gafferlaw01_frames.calls k  true _ A7.out).mono ?_); rintro e w13 ⟨rfl, hb⟩; have n0_ := Aside0.mk (below_step (by repeat (first | (with_reducible first | exact HB.out | apply below_alloc | apply pw_below_drewN | apply below_drew1) | exact HB.out)) hb); clear HB; have HB := n0_; clear n0_; (try clear hb); (try clear hb2); (try clear hk); (try clear hi)))
          go_meet
          case rel => exact ⟨_, (decide (a2 < 0)), (by first | rfl | (simp; done) | (simp [*]; done)), H', ⟨by first | omega | exact Nat.le_refl _⟩, ⟨by repeat (first | (with_reducible first | exact HB.out | apply below_alloc | apply pw_below_drewN | apply below_drew1) | exact HB.out)⟩⟩
      · replace c8 := Bool.eq_false_iff.mpr c8
        subst c8
        have H1 : (gafferlaw01_PackShort.j0 k a0 a1 a2 true) = some r := by rw [if_neg (show ¬ (false = true) by decide)] at H; exact H
        clear H
        have H := H1
        clear H1
        have H' := Aside0.mk H
        clear H
        go_wp2_with (first | ((with_reducible refine gate_callee (f := 16) rfl ?_); refine goesL_ (some 20) rfl rfl Try.func16 (by kernel_rfl) rfl #[] rfl (by (try simp only [List.map_toArray, List.map_cons, List.map_nil]); first | done | rfl | (simp only [List.length_drop, List.length_take]; rfl)) ?_; (with_reducible refine (gafferlaw01_numbers.calls k  true _ A5.out).mono ?_); rintro e w14 ⟨rfl, hb⟩; refine ⟨_, rfl, ?_⟩; have n0_ := Aside0.mk (below_step (by repeat (first | (with_reducible first | exact HB.out | apply below_alloc | apply pw_below_drewN | apply below_drew1) | exact HB.out)) hb); clear HB; have HB := n0_; clear n0_; (try clear hb); (try clear hb2); (try clear hk); (try clear hi)) | (go_at_call 29; (with_reducible refine (gafferlaw01_frames.calls k  false _ A7.out).mono ?_); rintro e w15 ⟨rfl, hb⟩; have n0_ := Aside0.mk (below_step (by repeat (first | (with_reducible first | exact HB.out | apply below_alloc | apply pw_below_drewN | apply below_drew1) | exact HB.out)) hb); clear HB; have HB := n0_; clear n0_; (try clear hb); (try clear hb2); (try clear hk); (try clear hi)))
        go_meet
        case rel => exact ⟨_, (true), (by first | rfl | (simp; done) | (simp [*]; done)), H', ⟨by first | omega | exact Nat.le_refl _⟩, ⟨by repeat (first | (with_reducible first | exact HB.out | apply below_alloc | apply pw_below_drewN | apply below_drew1) | exact HB.out)⟩⟩
    · replace c6 := Bool.eq_false_iff.mpr c6
      subst c6
      have H1 : (gafferlaw01_PackShort.j0 k a0 a1 a2 true) = some r := by rw [if_neg (show ¬ (false = true) by decide)] at H; exact H
      clear H
      have H := H1
      clear H1
      have H' := Aside0.mk H
      clear H
      go_wp2_with (first | ((with_reducible refine gate_callee (f := 16) rfl ?_); refine goesL_ (some 20) rfl rfl Try.func16 (by kernel_rfl) rfl #[] rfl (by (try simp only [List.map_toArray, List.map_cons, List.map_nil]); first | done | rfl | (simp only [List.length_drop, List.length_take]; rfl)) ?_; (with_reducible refine (gafferlaw01_numbers.calls k  false _ A5.out).mono ?_); rintro e w16 ⟨rfl, hb⟩; refine ⟨_, rfl, ?_⟩; have n0_ := Aside0.mk (below_step (by repeat (first | (with_reducible first | exact HB.out | apply below_alloc | apply pw_below_drewN | apply below_drew1) | exact HB.out)) hb); clear HB; have HB := n0_; clear n0_; (try clear hb); (try clear hb2); (try clear hk); (try clear hi)))
      go_meet
      case rel => exact ⟨_, (true), (by first | rfl | (simp; done) | (simp [*]; done)), H', ⟨by first | omega | exact Nat.le_refl _⟩, ⟨by repeat (first | (with_reducible first | exact HB.out | apply below_alloc | apply pw_below_drewN | apply below_drew1) | exact HB.out)⟩⟩
  case rest =>
    clear HC4
    try clear c1
    try clear p2
    try clear c6
    try clear c8
    try clear c9
    try clear c9b0
    try clear c9b1
    try clear c12
    try clear c16
    obtain ⟨kq, x34_3, rfl, HA, HJ3, HB⟩ := hcut
    cases kq with
    | zero => exact absurd HA.out (by simp [gafferlaw01_PackShort.j0])
    | succ kj3 =>
      have H := HA.out
      clear HA
      simp only [gafferlaw01_PackShort.j0] at H
      by_cases c17 : x34_3 = true
      · subst c17
        have H1 : ((gafferlaw01_numbers.f kj3).bind fun t224 => (if t224 = true then ((gafferlaw01_frames.f kj3).bind fun t225 => (some t225)) else (some false))) = some r := by rw [if_pos rfl] at H; exact H
        clear H
        have H := H1
        clear H1
        replace H := Option.bind_eq_some_iff.mp H
        obtain ⟨t224, A180, H⟩ := H
        replace H : (if t224 = true then ((gafferlaw01_frames.f kj3).bind fun t225 => (some t225)) else (some false)) = some r := H
        have A18 := Aside0.mk A180
        clear A180
        by_cases c19 : t224 = true
        · subst c19
          have H1 : ((gafferlaw01_frames.f kj3).bind fun t225 => (some t225)) = some r := by rw [if_pos rfl] at H; exact H
          clear H
          have H := H1
          clear H1
          replace H := Option.bind_eq_some_iff.mp H
          obtain ⟨t225, A200, H⟩ := H
          replace H : (some t225) = some r := H
          have A20 := Aside0.mk A200
          clear A200
          obtain rfl := Option.some.inj H
          go_wp2_with (first | ((with_reducible refine gate_callee (f := 16) rfl ?_); refine goesL_ (some 35) rfl rfl Try.func16 (by kernel_rfl) rfl #[] rfl (by (try simp only [List.map_toArray, List.map_cons, List.map_nil]); first | done | rfl | (simp only [List.length_drop, List.length_take]; rfl)) ?_; (with_reducible refine (gafferlaw01_numbers.calls kj3  true _ A18.out).mono ?_); rintro e w21 ⟨rfl, hb⟩; refine ⟨_, rfl, ?_⟩; have n0_ := Aside0.mk (below_step (by repeat (first | (with_reducible first | exact HB.out | apply below_alloc | apply pw_below_drewN | apply below_drew1) | exact HB.out)) hb); clear HB; have HB := n0_; clear n0_; (try clear hb); (try clear hb2); (try clear hk); (try clear hi)) | (go_at_call 29; (with_reducible refine (gafferlaw01_frames.calls kj3  t225 _ A20.out).mono ?_); rintro e w22 ⟨rfl, hb⟩; have n0_ := Aside0.mk (below_step (by repeat (first | (with_reducible first | exact HB.out | apply below_alloc | apply pw_below_drewN | apply below_drew1) | exact HB.out)) hb); clear HB; have HB := n0_; clear n0_; (try clear hb); (try clear hb2); (try clear hk); (try clear hi)))
          go_ret
          exact ⟨by first | rfl | (simp [errW_none, errW_some] <;> rfl) | (simp [*, errW_none, errW_some] <;> rfl), by repeat (first | (with_reducible first | exact HB.out | apply below_alloc | apply pw_below_drewN | apply below_drew1) | exact HB.out)⟩
        · replace c19 := Bool.eq_false_iff.mpr c19
          subst c19
          have H1 : (some false) = some r := by rw [if_neg (show ¬ (false = true) by decide)] at H; exact H
          clear H
          have H := H1
          clear H1
          obtain rfl := Option.some.inj H
          go_wp2_with (first | ((with_reducible refine gate_callee (f := 16) rfl ?_); refine goesL_ (some 35) rfl rfl Try.func16 (by kernel_rfl) rfl #[] rfl (by (try simp only [List.map_toArray, List.map_cons, List.map_nil]); first | done | rfl | (simp only [List.length_drop, List.length_take]; rfl)) ?_; (with_reducible refine (gafferlaw01_numbers.calls kj3  false _ A18.out).mono ?_); rintro e w23 ⟨rfl, hb⟩; refine ⟨_, rfl, ?_⟩; have n0_ := Aside0.mk (below_step (by repeat (first | (with_reducible first | exact HB.out | apply below_alloc | apply pw_below_drewN | apply below_drew1) | exact HB.out)) hb); clear HB; have HB := n0_; clear n0_; (try clear hb); (try clear hb2); (try clear hk); (try clear hi)))
          go_ret
          exact ⟨by first | rfl | (simp [errW_none, errW_some] <;> rfl) | (simp [*, errW_none, errW_some] <;> rfl), by repeat (first | (with_reducible first | exact HB.out | apply below_alloc | apply pw_below_drewN | apply below_drew1) | exact HB.out)⟩
      · replace c17 := Bool.eq_false_iff.mpr c17
        subst c17
        have H1 : ((pack_Frame.f kj3 a1).bind fun bt226 => ((pack_Number.f kj3 a0).bind fun t228 => ((pack_Text.f kj3 a1).bind fun t229 => ((some (([t228, t229, bt226.1] : List ByteArray) : List ByteArray)).bind fun y230 => (gafferlaw01_PackShort.l0 kj3 a0 a1 a2 bt226.1 y230 (y230.length : Int) 0))))) = some r := by rw [if_neg (show ¬ (false = true) by decide)] at H; exact H
        clear H
        have H := H1
        clear H1
        replace H := Option.bind_eq_some_iff.mp H
        obtain ⟨⟨t226, t227⟩, A240, H⟩ := H
        replace H : ((pack_Number.f kj3 a0).bind fun t228 => ((pack_Text.f kj3 a1).bind fun t229 => ((some (([t228, t229, t226] : List ByteArray) : List ByteArray)).bind fun y230 => (gafferlaw01_PackShort.l0 kj3 a0 a1 a2 t226 y230 (y230.length : Int) 0)))) = some r := H
        have A24 := Aside0.mk A240
        clear A240
        replace H := Option.bind_eq_some_iff.mp H
        obtain ⟨t228, A250, H⟩ := H
        replace H : ((pack_Text.f kj3 a1).bind fun t229 => ((some (([t228, t229, t226] : List ByteArray) : List ByteArray)).bind fun y230 => (gafferlaw01_PackShort.l0 kj3 a0 a1 a2 t226 y230 (y230.length : Int) 0))) = some r := H
        have A25 := Aside0.mk A250
        clear A250
        replace H := Option.bind_eq_some_iff.mp H
        obtain ⟨t229, A260, H⟩ := H
        replace H : ((some (([t228, t229, t226] : List ByteArray) : List ByteArray)).bind fun y230 => (gafferlaw01_PackShort.l0 kj3 a0 a1 a2 t226 y230 (y230.length : Int) 0)) = some r := H
        have A26 := Aside0.mk A260
        clear A260
        obtain ⟨y230, hy230⟩ : ∃ y_ : List ByteArray, y_ = (([t228, t229, t226] : List ByteArray)) := ⟨_, rfl⟩
        replace H : (gafferlaw01_PackShort.l0 kj3 a0 a1 a2 t226 y230 (y230.length : Int) 0) = some r := by first | (rw [hy230]; with_reducible exact H) | (have H2_ := (Option.bind_some _ _).symm.trans H; rw [hy230]; with_reducible exact H2_) | (have H2_ := (Option.bind_some _ _).symm.trans H; with_reducible exact H2_) | with_reducible exact H | (rw [hy230]; exact H) | exact H
        have Ny230 := Aside0.mk hy230
        clear hy230
        have H' := Aside0.mk H
        clear H
        go_wp2_with (first | ((with_reducible refine gate_callee (f := 25) rfl ?_); refine goesL_ (some 41) rfl rfl Try.func25 (by kernel_rfl) rfl #[.string a1] rfl (by (try simp only [List.map_toArray, List.map_cons, List.map_nil]); first | done | rfl | (simp only [List.length_drop, List.length_take]; rfl)) ?_; (with_reducible refine (pack_Frame.calls kj3 a1 t226 t227 _ A24.out).mono ?_); rintro e w27 ⟨rfl, hb⟩; refine ⟨_, rfl, ?_⟩; have n0_ := Aside0.mk (below_step (by repeat (first | (with_reducible first | exact HB.out | apply below_alloc | apply pw_below_drewN | apply below_drew1) | exact HB.out)) hb); clear HB; have HB := n0_; clear n0_; (try clear hb); (try clear hb2); (try clear hk); (try clear hi)) | ((with_reducible refine gate_callee (f := 17) rfl ?_); refine goesL_ (some 45) rfl rfl Try.func17 (by kernel_rfl) rfl #[.int .u64 a0] rfl (by (try simp only [List.map_toArray, List.map_cons, List.map_nil]); first | done | rfl | (simp only [List.length_drop, List.length_take]; rfl)) ?_; (with_reducible refine (pack_Number.calls kj3 a0 t228 _ A25.out).mono ?_); rintro e w28 ⟨rfl, hb⟩; refine ⟨_, rfl, ?_⟩; have n0_ := Aside0.mk (below_step (by repeat (first | (with_reducible first | exact HB.out | apply below_alloc | apply pw_below_drewN | apply below_drew1) | exact HB.out)) hb); clear HB; have HB := n0_; clear n0_; (try clear hb); (try clear hb2); (try clear hk); (try clear hi)) | ((with_reducible refine gate_callee (f := 19) rfl ?_); refine goesL_ (some 47) rfl rfl Try.func19 (by kernel_rfl) rfl #[.string a1] rfl (by (try simp only [List.map_toArray, List.map_cons, List.map_nil]); first | done | rfl | (simp only [List.length_drop, List.length_take]; rfl)) ?_; (with_reducible refine (pack_Text.calls kj3 a1 t229 _ A26.out).mono ?_); rintro e w29 ⟨rfl, hb⟩; refine ⟨_, rfl, ?_⟩; have n0_ := Aside0.mk (below_step (by repeat (first | (with_reducible first | exact HB.out | apply below_alloc | apply pw_below_drewN | apply below_drew1) | exact HB.out)) hb); clear HB; have HB := n0_; clear n0_; (try clear hb); (try clear hb2); (try clear hk); (try clear hi)) | ((with_reducible refine gate_dst (N := 49) rfl ?_); (try (refine gate_guard (by rfl) ?_; dsimp only)); refine Kd.R_lit Kd.string _ 9 ?hg (N := 49) ?hd (xs := ([t228, t229, t226] : List ByteArray)) (inner := [.string t228, .string t229, .string t226]) (ok := fun _ => True) (okp := fun _ => True) ?hr ?hp (fun _ hk => hk) trivial (Below.refl _ _) (Nat.le_refl _) (by simp) ?_; (case hd => rfl); (case hg => rfl); (case hr => first | (go_simp; done) | (go_simp; rfl)); (case hp => exact (Reps.one (show Kd.M Kd.string _ _ _ t228 [.string t228] from rfl) (Reps.one (show Kd.M Kd.string _ _ _ t229 [.string t229] from rfl) (Reps.one (show Kd.M Kd.string _ _ _ t226 [.string t226] from rfl) (Reps.none _ _))))); intro v231 w30 ho31 hb hg_ hnew_; clear hg_ hnew_; (first | rw [← Ny230.out] at ho31 | (simp only [Int.reduceToNat] at ho31; rw [← Ny230.out] at ho31)); have n0_ := Aside0.mk (Kd.R_lower ho31 (below_size (by repeat (first | (with_reducible first | exact HB.out | apply below_alloc | apply pw_below_drewN | apply below_drew1) | exact HB.out)))); have n1_ := Aside0.mk (below_step (by repeat (first | (with_reducible first | exact HB.out | apply below_alloc | apply pw_below_drewN | apply below_drew1) | exact HB.out)) hb); clear HB; have HO232 := n0_; have HB := n1_; clear n0_ n1_; clear hb ho31; obtain ⟨Ao32, co32, eo32⟩ := Kd.R_slice HO232.out; subst eo32))
        go_loopg [51] kj3 (fun kq v51 w' => ∃ (x51_2 : Int), v51 = .int .i64 x51_2 ∧ Aside0 (gafferlaw01_PackShort.l0 kq a0 a1 a2 t226 y230 (y230.length : Int) x51_2 = some r) ∧ Aside0 (kq ≤ kj3) ∧ Aside0 (Kd.R Kd.string 9 w' w.heap.size (fun _ => True) (.slice Ao32 y230.length co32) y230) ∧ Aside0 (Below w.heap.size w w'))
        case atStart => exact ⟨(0), (by first | rfl | (simp; done) | (simp [*]; done)), H', ⟨Nat.le_refl _⟩, ⟨by (with_reducible repeat (first | apply Kd.R_alloc | apply Kd.R_drewN | apply Kd.R_drew)); exact HO232.out⟩, ⟨by repeat (first | (with_reducible first | exact HB.out | apply below_alloc | apply pw_below_drewN | apply below_drew1) | exact HB.out)⟩⟩
        case round =>
          clear H'
          try clear c1
          try clear c2
          try clear p2
          try clear c6
          try clear c8
          try clear c9
          try clear c9b0
          try clear c9b1
          try clear c12
          try clear c16
          try clear c17
          try clear c19
          try clear c25
          try clear p2
          obtain ⟨x51_2, rfl, HA, HK2, HO_49, HB⟩ := hrel
          cases gk with
          | zero => exact absurd HA.out (by simp [gafferlaw01_PackShort.l0])
          | succ k2 =>
            have H := HA.out
            clear HA
            simp only [gafferlaw01_PackShort.l0] at H
            by_cases c33 : x51_2 < (y230.length : Int)
            · rw [if_pos c33] at H
              have c33b0 : decide (x51_2 < (y230.length : Int)) = true := decide_eq_true c33
              clear c33
              by_cases c34 : 0 ≤ x51_2
              · rw [if_pos c34] at H
                have c34b0 : decide (0 ≤ x51_2) = true := decide_eq_true c34
                clear c34
                by_cases c35 : x51_2 < (y230.length : Int)
                · rw [if_pos c35] at H
                  have c35b0 : decide (x51_2 < (y230.length : Int)) = true := decide_eq_true c35
                  clear c35
                  by_cases c36 : a2 ≥ ((rdOf ByteArray.empty y230 x51_2).size : Int)
                  · rw [if_pos c36] at H
                    have c36b0 : decide (((rdOf ByteArray.empty y230 x51_2).size : Int) ≤ a2) = true := decide_eq_true c36
                    clear c36
                    have H' := Aside0.mk H
                    clear H
                    have p233 : 0 ≤ (x51_2 : Int) := of_decide_eq_true (by first | (with_reducible assumption) | assumption)
                    have q233 : x51_2 < (y230.length : Int) := of_decide_eq_true (by first | (with_reducible assumption) | assumption)
                    obtain ⟨ad233, e233, hx233_0⟩ := Kd.at_string (Kd.R_reads' HO_49.out).2.2 x51_2 p233 q233
                    cases e233
                    replace p233 := eq_true p233
                    replace q233 := eq_true q233
                    go_wp2
                    go_roundg k2
                    case measure => have := HJ3.out; have := HK2.out; omega
                    case rel => exact ⟨(wrap64 (x51_2 + 1)), (by first | rfl | (simp; done) | (simp [*]; done)), H', ⟨by have := HJ3.out; have := HK2.out; omega⟩, ⟨by (with_reducible repeat (first | apply Kd.R_alloc | apply Kd.R_drewN | apply Kd.R_drew)); exact HO_49.out⟩, ⟨by repeat (first | (with_reducible first | exact HB.out | apply below_alloc | apply pw_below_drewN | apply below_drew1) | exact HB.out)⟩⟩
                  · rw [if_neg c36] at H
                    have c36b0 : decide (((rdOf ByteArray.empty y230 x51_2).size : Int) ≤ a2) = false := decide_eq_false c36
                    clear c36
                    by_cases c37 : 0 ≤ a2
                    · rw [if_pos c37] at H
                      have c37b0 := eq_true c37
                      have c37b1 : decide (0 ≤ a2) = true := decide_eq_true c37
                      clear c37
                      by_cases c38 : a2 ≤ ((rdOf ByteArray.empty y230 x51_2).size : Int)
                      · rw [if_pos c38] at H
                        have c38b0 := eq_true c38
                        have c38b1 : decide (a2 ≤ ((rdOf ByteArray.empty y230 x51_2).size : Int)) = true := decide_eq_true c38
                        clear c38
                        replace H := Option.bind_eq_some_iff.mp H
                        obtain ⟨⟨t234, t235, t236⟩, A390, H⟩ := H
                        replace H : ((pack_TakeText.f k2 ((rdOf ByteArray.empty y230 x51_2).extract 0 (a2 : Int).toNat)).bind fun bt237 => ((pack_TakeFrame.f k2 ((rdOf ByteArray.empty y230 x51_2).extract 0 (a2 : Int).toNat)).bind fun bt240 => (if (rdOf ByteArray.empty y230 x51_2).toList = t226.toList then (if bt240.2.2 = 3 then ((pack_Text.f k2 a1).bind fun t243 => (if (rdOf ByteArray.empty y230 x51_2).toList = t243.toList then (if bt237.2.2 = 3 then ((pack_Number.f k2 a0).bind fun t244 => (if (rdOf ByteArray.empty y230 x51_2).toList = t244.toList then (if t236 = 3 then (gafferlaw01_PackShort.l0 k2 a0 a1 a2 t226 y230 (y230.length : Int) (wrap64 (x51_2 + 1))) else (some false)) else (gafferlaw01_PackShort.l0 k2 a0 a1 a2 t226 y230 (y230.length : Int) (wrap64 (x51_2 + 1))))) else (some false)) else ((pack_Number.f k2 a0).bind fun t245 => (if (rdOf ByteArray.empty y230 x51_2).toList = t245.toList then (if t236 = 3 then (gafferlaw01_PackShort.l0 k2 a0 a1 a2 t226 y230 (y230.length : Int) (wrap64 (x51_2 + 1))) else (some false)) else (gafferlaw01_PackShort.l0 k2 a0 a1 a2 t226 y230 (y230.length : Int) (wrap64 (x51_2 + 1))))))) else (some false)) else ((pack_Text.f k2 a1).bind fun t246 => (if (rdOf ByteArray.empty y230 x51_2).toList = t246.toList then (if bt237.2.2 = 3 then ((pack_Number.f k2 a0).bind fun t247 => (if (rdOf ByteArray.empty y230 x51_2).toList = t247.toList then (if t236 = 3 then (gafferlaw01_PackShort.l0 k2 a0 a1 a2 t226 y230 (y230.length : Int) (wrap64 (x51_2 + 1))) else (some false)) else (gafferlaw01_PackShort.l0 k2 a0 a1 a2 t226 y230 (y230.length : Int) (wrap64 (x51_2 + 1))))) else (some false)) else ((pack_Number.f k2 a0).bind fun t248 => (if (rdOf ByteArray.empty y230 x51_2).toList = t248.toList then (if t236 = 3 then (gafferlaw01_PackShort.l0 k2 a0 a1 a2 t226 y230 (y230.length : Int) (wrap64 (x51_2 + 1))) else (some false)) else (gafferlaw01_PackShort.l0 k2 a0 a1 a2 t226 y230 (y230.length : Int) (wrap64 (x51_2 + 1)))))))))) = some r := H
                        have A39 := Aside0.mk A390
                        clear A390
                        have c40b0 := eq_true (of_decide_eq_true (by first | (with_reducible assumption) | assumption) : 0 ≤ a2)
                        have c41b0 := eq_true (of_decide_eq_true (by first | (with_reducible assumption) | assumption) : a2 ≤ ((rdOf ByteArray.empty y230 x51_2).size : Int))
                        replace H := Option.bind_eq_some_iff.mp H
                        obtain ⟨⟨t237, t238, t239⟩, A420, H⟩ := H
                        replace H : ((pack_TakeFrame.f k2 ((rdOf ByteArray.empty y230 x51_2).extract 0 (a2 : Int).toNat)).bind fun bt240 => (if (rdOf ByteArray.empty y230 x51_2).toList = t226.toList then (if bt240.2.2 = 3 then ((pack_Text.f k2 a1).bind fun t243 => (if (rdOf ByteArray.empty y230 x51_2).toList = t243.toList then (if t239 = 3 then ((pack_Number.f k2 a0).bind fun t244 => (if (rdOf ByteArray.empty y230 x51_2).toList = t244.toList then (if t236 = 3 then (gafferlaw01_PackShort.l0 k2 a0 a1 a2 t226 y230 (y230.length : Int) (wrap64 (x51_2 + 1))) else (some false)) else (gafferlaw01_PackShort.l0 k2 a0 a1 a2 t226 y230 (y230.length : Int) (wrap64 (x51_2 + 1))))) else (some false)) else ((pack_Number.f k2 a0).bind fun t245 => (if (rdOf ByteArray.empty y230 x51_2).toList = t245.toList then (if t236 = 3 then (gafferlaw01_PackShort.l0 k2 a0 a1 a2 t226 y230 (y230.length : Int) (wrap64 (x51_2 + 1))) else (some false)) else (gafferlaw01_PackShort.l0 k2 a0 a1 a2 t226 y230 (y230.length : Int) (wrap64 (x51_2 + 1))))))) else (some false)) else ((pack_Text.f k2 a1).bind fun t246 => (if (rdOf ByteArray.empty y230 x51_2).toList = t246.toList then (if t239 = 3 then ((pack_Number.f k2 a0).bind fun t247 => (if (rdOf ByteArray.empty y230 x51_2).toList = t247.toList then (if t236 = 3 then (gafferlaw01_PackShort.l0 k2 a0 a1 a2 t226 y230 (y230.length : Int) (wrap64 (x51_2 + 1))) else (some false)) else (gafferlaw01_PackShort.l0 k2 a0 a1 a2 t226 y230 (y230.length : Int) (wrap64 (x51_2 + 1))))) else (some false)) else ((pack_Number.f k2 a0).bind fun t248 => (if (rdOf ByteArray.empty y230 x51_2).toList = t248.toList then (if t236 = 3 then (gafferlaw01_PackShort.l0 k2 a0 a1 a2 t226 y230 (y230.length : Int) (wrap64 (x51_2 + 1))) else (some false)) else (gafferlaw01_PackShort.l0 k2 a0 a1 a2 t226 y230 (y230.length : Int) (wrap64 (x51_2 + 1))))))))) = some r := H
                        have A42 := Aside0.mk A420
                        clear A420
                        have c43b0 := eq_true (of_decide_eq_true (by first | (with_reducible assumption) | assumption) : 0 ≤ a2)
                        have c44b0 := eq_true (of_decide_eq_true (by first | (with_reducible assumption) | assumption) : a2 ≤ ((rdOf ByteArray.empty y230 x51_2).size : Int))
                        replace H := Option.bind_eq_some_iff.mp H
                        obtain ⟨⟨t240, t241, t242⟩, A450, H⟩ := H
                        replace H : (if (rdOf ByteArray.empty y230 x51_2).toList = t226.toList then (if t242 = 3 then ((pack_Text.f k2 a1).bind fun t243 => (if (rdOf ByteArray.empty y230 x51_2).toList = t243.toList then (if t239 = 3 then ((pack_Number.f k2 a0).bind fun t244 => (if (rdOf ByteArray.empty y230 x51_2).toList = t244.toList then (if t236 = 3 then (gafferlaw01_PackShort.l0 k2 a0 a1 a2 t226 y230 (y230.length : Int) (wrap64 (x51_2 + 1))) else (some false)) else (gafferlaw01_PackShort.l0 k2 a0 a1 a2 t226 y230 (y230.length : Int) (wrap64 (x51_2 + 1))))) else (some false)) else ((pack_Number.f k2 a0).bind fun t245 => (if (rdOf ByteArray.empty y230 x51_2).toList = t245.toList then (if t236 = 3 then (gafferlaw01_PackShort.l0 k2 a0 a1 a2 t226 y230 (y230.length : Int) (wrap64 (x51_2 + 1))) else (some false)) else (gafferlaw01_PackShort.l0 k2 a0 a1 a2 t226 y230 (y230.length : Int) (wrap64 (x51_2 + 1))))))) else (some false)) else ((pack_Text.f k2 a1).bind fun t246 => (if (rdOf ByteArray.empty y230 x51_2).toList = t246.toList then (if t239 = 3 then ((pack_Number.f k2 a0).bind fun t247 => (if (rdOf ByteArray.empty y230 x51_2).toList = t247.toList then (if t236 = 3 then (gafferlaw01_PackShort.l0 k2 a0 a1 a2 t226 y230 (y230.length : Int) (wrap64 (x51_2 + 1))) else (some false)) else (gafferlaw01_PackShort.l0 k2 a0 a1 a2 t226 y230 (y230.length : Int) (wrap64 (x51_2 + 1))))) else (some false)) else ((pack_Number.f k2 a0).bind fun t248 => (if (rdOf ByteArray.empty y230 x51_2).toList = t248.toList then (if t236 = 3 then (gafferlaw01_PackShort.l0 k2 a0 a1 a2 t226 y230 (y230.length : Int) (wrap64 (x51_2 + 1))) else (some false)) else (gafferlaw01_PackShort.l0 k2 a0 a1 a2 t226 y230 (y230.length : Int) (wrap64 (x51_2 + 1)))))))) = some r := H
                        have A45 := Aside0.mk A450
                        clear A450
                        by_cases c46 : (rdOf ByteArray.empty y230 x51_2).toList = t226.toList
                        · rw [if_pos c46] at H
                          have c46b0 : ((rdOf ByteArray.empty y230 x51_2).toList == t226.toList) = true := beq_iff_eq.mpr c46
                          have c46b1 : ((rdOf ByteArray.empty y230 x51_2).toList != t226.toList) = false := bne_eq_false_iff_eq.mpr c46
                          clear c46
                          by_cases c47 : t242 = 3
                          · rw [if_pos c47] at H
                            have c47b0 : (t242 == 3) = true := beq_iff_eq.mpr c47
                            have c47b1 : (t242 != 3) = false := bne_eq_false_iff_eq.mpr c47
                            clear c47
                            replace H := Option.bind_eq_some_iff.mp H
                            obtain ⟨t243, A480, H⟩ := H
                            replace H : (if (rdOf ByteArray.empty y230 x51_2).toList = t243.toList then (if t239 = 3 then ((pack_Number.f k2 a0).bind fun t244 => (if (rdOf ByteArray.empty y230 x51_2).toList = t244.toList then (if t236 = 3 then (gafferlaw01_PackShort.l0 k2 a0 a1 a2 t226 y230 (y230.length : Int) (wrap64 (x51_2 + 1))) else (some false)) else (gafferlaw01_PackShort.l0 k2 a0 a1 a2 t226 y230 (y230.length : Int) (wrap64 (x51_2 + 1))))) else (some false)) else ((pack_Number.f k2 a0).bind fun t245 => (if (rdOf ByteArray.empty y230 x51_2).toList = t245.toList then (if t236 = 3 then (gafferlaw01_PackShort.l0 k2 a0 a1 a2 t226 y230 (y230.length : Int) (wrap64 (x51_2 + 1))) else (some false)) else (gafferlaw01_PackShort.l0 k2 a0 a1 a2 t226 y230 (y230.length : Int) (wrap64 (x51_2 + 1)))))) = some r := H
                            have A48 := Aside0.mk A480
                            clear A480
                            by_cases c49 : (rdOf ByteArray.empty y230 x51_2).toList = t243.toList
                            · rw [if_pos c49] at H
                              have c49b0 : ((rdOf ByteArray.empty y230 x51_2).toList == t243.toList) = true := beq_iff_eq.mpr c49
                              have c49b1 : ((rdOf ByteArray.empty y230 x51_2).toList != t243.toList) = false := bne_eq_false_iff_eq.mpr c49
                              clear c49
                              by_cases c50 : t239 = 3
                              · rw [if_pos c50] at H
                                have c50b0 : (t239 == 3) = true := beq_iff_eq.mpr c50
                                have c50b1 : (t239 != 3) = false := bne_eq_false_iff_eq.mpr c50
                                clear c50
                                replace H := Option.bind_eq_some_iff.mp H
                                obtain ⟨t244, A510, H⟩ := H
                                replace H : (if (rdOf ByteArray.empty y230 x51_2).toList = t244.toList then (if t236 = 3 then (gafferlaw01_PackShort.l0 k2 a0 a1 a2 t226 y230 (y230.length : Int) (wrap64 (x51_2 + 1))) else (some false)) else (gafferlaw01_PackShort.l0 k2 a0 a1 a2 t226 y230 (y230.length : Int) (wrap64 (x51_2 + 1)))) = some r := H
                                have A51 := Aside0.mk A510
                                clear A510
                                by_cases c52 : (rdOf ByteArray.empty y230 x51_2).toList = t244.toList
                                · rw [if_pos c52] at H
                                  have c52b0 : ((rdOf ByteArray.empty y230 x51_2).toList == t244.toList) = true := beq_iff_eq.mpr c52
                                  have c52b1 : ((rdOf ByteArray.empty y230 x51_2).toList != t244.toList) = false := bne_eq_false_iff_eq.mpr c52
                                  clear c52
                                  by_cases c53 : t236 = 3
                                  · rw [if_pos c53] at H
                                    have c53b0 : (t236 == 3) = true := beq_iff_eq.mpr c53
                                    have c53b1 : (t236 != 3) = false := bne_eq_false_iff_eq.mpr c53
                                    clear c53
                                    have H' := Aside0.mk H
                                    clear H
                                    have p233 : 0 ≤ (x51_2 : Int) := of_decide_eq_true (by first | (with_reducible assumption) | assumption)
                                    have q233 : x51_2 < (y230.length : Int) := of_decide_eq_true (by first | (with_reducible assumption) | assumption)
                                    obtain ⟨ad233, e233, hx233_0⟩ := Kd.at_string (Kd.R_reads' HO_49.out).2.2 x51_2 p233 q233
                                    cases e233
                                    replace p233 := eq_true p233
                                    replace q233 := eq_true q233
                                    go_wp2_with (first | ((with_reducible refine gate_callee (f := 23) rfl ?_); refine goesL_ (some 63) rfl rfl Try.func23 (by kernel_rfl) rfl #[.string ((rdOf ByteArray.empty y230 x51_2).extract 0 (a2 : Int).toNat)] rfl (by (try simp only [List.map_toArray, List.map_cons, List.map_nil]); first | done | rfl | (simp only [List.length_drop, List.length_take]; rfl)) ?_; (with_reducible refine (pack_TakeNumber.calls k2 ((rdOf ByteArray.empty y230 x51_2).extract 0 (a2 : Int).toNat) t234 t235 t236 _ A39.out).mono ?_); rintro e w' ⟨rfl, ⟨nd, rfl⟩⟩; refine ⟨_, rfl, ?_⟩) | ((with_reducible refine gate_callee (f := 21) rfl ?_); refine goesL_ (some 71) rfl rfl Try.func21 (by kernel_rfl) rfl #[.string ((rdOf ByteArray.empty y230 x51_2).extract 0 (a2 : Int).toNat)] rfl (by (try simp only [List.map_toArray, List.map_cons, List.map_nil]); first | done | rfl | (simp only [List.length_drop, List.length_take]; rfl)) ?_; (with_reducible refine (pack_TakeText.calls k2 ((rdOf ByteArray.empty y230 x51_2).extract 0 (a2 : Int).toNat) t237 t238 t239 _ A42.out).mono ?_); rintro e w' ⟨rfl, ⟨nd, rfl⟩⟩; refine ⟨_, rfl, ?_⟩) | ((with_reducible refine gate_callee (f := 27) rfl ?_); refine goesL_ (some 79) rfl rfl Try.func27 (by kernel_rfl) rfl #[.string ((rdOf ByteArray.empty y230 x51_2).extract 0 (a2 : Int).toNat)] rfl (by (try simp only [List.map_toArray, List.map_cons, List.map_nil]); first | done | rfl | (simp only [List.length_drop, List.length_take]; rfl)) ?_; (with_reducible refine (pack_TakeFrame.calls k2 ((rdOf ByteArray.empty y230 x51_2).extract 0 (a2 : Int).toNat) t240 t241 t242 _ A45.out).mono ?_); rintro e w54 ⟨rfl, hb⟩; refine ⟨_, rfl, ?_⟩; have n0_ := Aside0.mk (Kd.R_below (by (with_reducible repeat (first | apply Kd.R_alloc | apply Kd.R_drewN | apply Kd.R_drew)); exact HO_49.out) hb); have n1_ := Aside0.mk (below_step (by repeat (first | (with_reducible first | exact HB.out | apply below_alloc | apply pw_below_drewN | apply below_drew1) | exact HB.out)) hb); clear HO_49; clear HB; have HO_49 := n0_; have HB := n1_; clear n0_ n1_; (try clear hb); (try clear hb2); (try clear hk); (try clear hi)) | (go_at_call 19; (with_reducible refine (pack_Text.calls k2 a1 t243 _ A48.out).mono ?_); rintro e w55 ⟨rfl, hb⟩; have n0_ := Aside0.mk (Kd.R_below (by (with_reducible repeat (first | apply Kd.R_alloc | apply Kd.R_drewN | apply Kd.R_drew)); exact HO_49.out) hb); have n1_ := Aside0.mk (below_step (by repeat (first | (with_reducible first | exact HB.out | apply below_alloc | apply pw_below_drewN | apply below_drew1) | exact HB.out)) hb); clear HO_49; clear HB; have HO_49 := n0_; have HB := n1_; clear n0_ n1_; (try clear hb); (try clear hb2); (try clear hk); (try clear hi)) | (go_at_call 17; (with_reducible refine (pack_Number.calls k2 a0 t244 _ A51.out).mono ?_); rintro e w56 ⟨rfl, hb⟩; have n0_ := Aside0.mk (Kd.R_below (by (with_reducible repeat (first | apply Kd.R_alloc | apply Kd.R_drewN | apply Kd.R_drew)); exact HO_49.out) hb); have n1_ := Aside0.mk (below_step (by repeat (first | (with_reducible first | exact HB.out | apply below_alloc | apply pw_below_drewN | apply below_drew1) | exact HB.out)) hb); clear HO_49; clear HB; have HO_49 := n0_; have HB := n1_; clear n0_ n1_; (try clear hb); (try clear hb2); (try clear hk); (try clear hi)))
                                    go_roundg k2
                                    case measure => have := HJ3.out; have := HK2.out; omega
                                    case rel => exact ⟨(wrap64 (x51_2 + 1)), (by first | rfl | (simp; done) | (simp [*]; done)), H', ⟨by have := HJ3.out; have := HK2.out; omega⟩, ⟨by (with_reducible repeat (first | apply Kd.R_alloc | apply Kd.R_drewN | apply Kd.R_drew)); exact HO_49.out⟩, ⟨by repeat (first | (with_reducible first | exact HB.out | apply below_alloc | apply pw_below_drewN | apply below_drew1) | exact HB.out)⟩⟩
                                  · rw [if_neg c53] at H
                                    have c53b0 : (t236 == 3) = false := beq_eq_false_iff_ne.mpr c53
                                    have c53b1 : (t236 != 3) = true := bne_iff_ne.mpr c53
                                    obtain rfl := Option.some.inj H
                                    have p233 : 0 ≤ (x51_2 : Int) := of_decide_eq_true (by first | (with_reducible assumption) | assumption)
                                    have q233 : x51_2 < (y230.length : Int) := of_decide_eq_true (by first | (with_reducible assumption) | assumption)
                                    obtain ⟨ad233, e233, hx233_0⟩ := Kd.at_string (Kd.R_reads' HO_49.out).2.2 x51_2 p233 q233
                                    cases e233
                                    replace p233 := eq_true p233
                                    replace q233 := eq_true q233
                                    go_wp2_with (first | ((with_reducible refine gate_callee (f := 23) rfl ?_); refine goesL_ (some 63) rfl rfl Try.func23 (by kernel_rfl) rfl #[.string ((rdOf ByteArray.empty y230 x51_2).extract 0 (a2 : Int).toNat)] rfl (by (try simp only [List.map_toArray, List.map_cons, List.map_nil]); first | done | rfl | (simp only [List.length_drop, List.length_take]; rfl)) ?_; (with_reducible refine (pack_TakeNumber.calls k2 ((rdOf ByteArray.empty y230 x51_2).extract 0 (a2 : Int).toNat) t234 t235 t236 _ A39.out).mono ?_); rintro e w' ⟨rfl, ⟨nd, rfl⟩⟩; refine ⟨_, rfl, ?_⟩) | ((with_reducible refine gate_callee (f := 21) rfl ?_); refine goesL_ (some 71) rfl rfl Try.func21 (by kernel_rfl) rfl #[.string ((rdOf ByteArray.empty y230 x51_2).extract 0 (a2 : Int).toNat)] rfl (by (try simp only [List.map_toArray, List.map_cons, List.map_nil]); first | done | rfl | (simp only [List.length_drop, List.length_take]; rfl)) ?_; (with_reducible refine (pack_TakeText.calls k2 ((rdOf ByteArray.empty y230 x51_2).extract 0 (a2 : Int).toNat) t237 t238 t239 _ A42.out).mono ?_); rintro e w' ⟨rfl, ⟨nd, rfl⟩⟩; refine ⟨_, rfl, ?_⟩) | ((with_reducible refine gate_callee (f := 27) rfl ?_); refine goesL_ (some 79) rfl rfl Try.func27 (by kernel_rfl) rfl #[.string ((rdOf ByteArray.empty y230 x51_2).extract 0 (a2 : Int).toNat)] rfl (by (try simp only [List.map_toArray, List.map_cons, List.map_nil]); first | done | rfl | (simp only [List.length_drop, List.length_take]; rfl)) ?_; (with_reducible refine (pack_TakeFrame.calls k2 ((rdOf ByteArray.empty y230 x51_2).extract 0 (a2 : Int).toNat) t240 t241 t242 _ A45.out).mono ?_); rintro e w57 ⟨rfl, hb⟩; refine ⟨_, rfl, ?_⟩; have n0_ := Aside0.mk (Kd.R_below (by (with_reducible repeat (first | apply Kd.R_alloc | apply Kd.R_drewN | apply Kd.R_drew)); exact HO_49.out) hb); have n1_ := Aside0.mk (below_step (by repeat (first | (with_reducible first | exact HB.out | apply below_alloc | apply pw_below_drewN | apply below_drew1) | exact HB.out)) hb); clear HO_49; clear HB; have HO_49 := n0_; have HB := n1_; clear n0_ n1_; (try clear hb); (try clear hb2); (try clear hk); (try clear hi)) | (go_at_call 19; (with_reducible refine (pack_Text.calls k2 a1 t243 _ A48.out).mono ?_); rintro e w58 ⟨rfl, hb⟩; have n0_ := Aside0.mk (Kd.R_below (by (with_reducible repeat (first | apply Kd.R_alloc | apply Kd.R_drewN | apply Kd.R_drew)); exact HO_49.out) hb); have n1_ := Aside0.mk (below_step (by repeat (first | (with_reducible first | exact HB.out | apply below_alloc | apply pw_below_drewN | apply below_drew1) | exact HB.out)) hb); clear HO_49; clear HB; have HO_49 := n0_; have HB := n1_; clear n0_ n1_; (try clear hb); (try clear hb2); (try clear hk); (try clear hi)) | (go_at_call 17; (with_reducible refine (pack_Number.calls k2 a0 t244 _ A51.out).mono ?_); rintro e w59 ⟨rfl, hb⟩; have n0_ := Aside0.mk (Kd.R_below (by (with_reducible repeat (first | apply Kd.R_alloc | apply Kd.R_drewN | apply Kd.R_drew)); exact HO_49.out) hb); have n1_ := Aside0.mk (below_step (by repeat (first | (with_reducible first | exact HB.out | apply below_alloc | apply pw_below_drewN | apply below_drew1) | exact HB.out)) hb); clear HO_49; clear HB; have HO_49 := n0_; have HB := n1_; clear n0_ n1_; (try clear hb); (try clear hb2); (try clear hk); (try clear hi)))
                                    go_ret
                                    exact ⟨by first | rfl | (simp [errW_none, errW_some] <;> rfl) | (simp [*, errW_none, errW_some] <;> rfl), by repeat (first | (with_reducible first | exact HB.out | apply below_alloc | apply pw_below_drewN | apply below_drew1) | exact HB.out)⟩
                                · rw [if_neg c52] at H
                                  have c52b0 : ((rdOf ByteArray.empty y230 x51_2).toList == t244.toList) = false := beq_eq_false_iff_ne.mpr c52
                                  have c52b1 : ((rdOf ByteArray.empty y230 x51_2).toList != t244.toList) = true := bne_iff_ne.mpr c52
                                  have H' := Aside0.mk H
                                  clear H
                                  have p233 : 0 ≤ (x51_2 : Int) := of_decide_eq_true (by first | (with_reducible assumption) | assumption)
                                  have q233 : x51_2 < (y230.length : Int) := of_decide_eq_true (by first | (with_reducible assumption) | assumption)
                                  obtain ⟨ad233, e233, hx233_0⟩ := Kd.at_string (Kd.R_reads' HO_49.out).2.2 x51_2 p233 q233
                                  cases e233
                                  replace p233 := eq_true p233
                                  replace q233 := eq_true q233
                                  go_wp2_with (first | ((with_reducible refine gate_callee (f := 23) rfl ?_); refine goesL_ (some 63) rfl rfl Try.func23 (by kernel_rfl) rfl #[.string ((rdOf ByteArray.empty y230 x51_2).extract 0 (a2 : Int).toNat)] rfl (by (try simp only [List.map_toArray, List.map_cons, List.map_nil]); first | done | rfl | (simp only [List.length_drop, List.length_take]; rfl)) ?_; (with_reducible refine (pack_TakeNumber.calls k2 ((rdOf ByteArray.empty y230 x51_2).extract 0 (a2 : Int).toNat) t234 t235 t236 _ A39.out).mono ?_); rintro e w' ⟨rfl, ⟨nd, rfl⟩⟩; refine ⟨_, rfl, ?_⟩) | ((with_reducible refine gate_callee (f := 21) rfl ?_); refine goesL_ (some 71) rfl rfl Try.func21 (by kernel_rfl) rfl #[.string ((rdOf ByteArray.empty y230 x51_2).extract 0 (a2 : Int).toNat)] rfl (by (try simp only [List.map_toArray, List.map_cons, List.map_nil]); first | done | rfl | (simp only [List.length_drop, List.length_take]; rfl)) ?_; (with_reducible refine (pack_TakeText.calls k2 ((rdOf ByteArray.empty y230 x51_2).extract 0 (a2 : Int).toNat) t237 t238 t239 _ A42.out).mono ?_); rintro e w' ⟨rfl, ⟨nd, rfl⟩⟩; refine ⟨_, rfl, ?_⟩) | ((with_reducible refine gate_callee (f := 27) rfl ?_); refine goesL_ (some 79) rfl rfl Try.func27 (by kernel_rfl) rfl #[.string ((rdOf ByteArray.empty y230 x51_2).extract 0 (a2 : Int).toNat)] rfl (by (try simp only [List.map_toArray, List.map_cons, List.map_nil]); first | done | rfl | (simp only [List.length_drop, List.length_take]; rfl)) ?_; (with_reducible refine (pack_TakeFrame.calls k2 ((rdOf ByteArray.empty y230 x51_2).extract 0 (a2 : Int).toNat) t240 t241 t242 _ A45.out).mono ?_); rintro e w60 ⟨rfl, hb⟩; refine ⟨_, rfl, ?_⟩; have n0_ := Aside0.mk (Kd.R_below (by (with_reducible repeat (first | apply Kd.R_alloc | apply Kd.R_drewN | apply Kd.R_drew)); exact HO_49.out) hb); have n1_ := Aside0.mk (below_step (by repeat (first | (with_reducible first | exact HB.out | apply below_alloc | apply pw_below_drewN | apply below_drew1) | exact HB.out)) hb); clear HO_49; clear HB; have HO_49 := n0_; have HB := n1_; clear n0_ n1_; (try clear hb); (try clear hb2); (try clear hk); (try clear hi)) | (go_at_call 19; (with_reducible refine (pack_Text.calls k2 a1 t243 _ A48.out).mono ?_); rintro e w61 ⟨rfl, hb⟩; have n0_ := Aside0.mk (Kd.R_below (by (with_reducible repeat (first | apply Kd.R_alloc | apply Kd.R_drewN | apply Kd.R_drew)); exact HO_49.out) hb); have n1_ := Aside0.mk (below_step (by repeat (first | (with_reducible first | exact HB.out | apply below_alloc | apply pw_below_drewN | apply below_drew1) | exact HB.out)) hb); clear HO_49; clear HB; have HO_49 := n0_; have HB := n1_; clear n0_ n1_; (try clear hb); (try clear hb2); (try clear hk); (try clear hi)) | (go_at_call 17; (with_reducible refine (pack_Number.calls k2 a0 t244 _ A51.out).mono ?_); rintro e w62 ⟨rfl, hb⟩; have n0_ := Aside0.mk (Kd.R_below (by (with_reducible repeat (first | apply Kd.R_alloc | apply Kd.R_drewN | apply Kd.R_drew)); exact HO_49.out) hb); have n1_ := Aside0.mk (below_step (by repeat (first | (with_reducible first | exact HB.out | apply below_alloc | apply pw_below_drewN | apply below_drew1) | exact HB.out)) hb); clear HO_49; clear HB; have HO_49 := n0_; have HB := n1_; clear n0_ n1_; (try clear hb); (try clear hb2); (try clear hk); (try clear hi)))
                                  go_roundg k2
                                  case measure => have := HJ3.out; have := HK2.out; omega
                                  case rel => exact ⟨(wrap64 (x51_2 + 1)), (by first | rfl | (simp; done) | (simp [*]; done)), H', ⟨by have := HJ3.out; have := HK2.out; omega⟩, ⟨by (with_reducible repeat (first | apply Kd.R_alloc | apply Kd.R_drewN | apply Kd.R_drew)); exact HO_49.out⟩, ⟨by repeat (first | (with_reducible first | exact HB.out | apply below_alloc | apply pw_below_drewN | apply below_drew1) | exact HB.out)⟩⟩
                              · rw [if_neg c50] at H
                                have c50b0 : (t239 == 3) = false := beq_eq_false_iff_ne.mpr c50
                                have c50b1 : (t239 != 3) = true := bne_iff_ne.mpr c50
                                obtain rfl := Option.some.inj H
                                have p233 : 0 ≤ (x51_2 : Int) := of_decide_eq_true (by first | (with_reducible assumption) | assumption)
                                have q233 : x51_2 < (y230.length : Int) := of_decide_eq_true (by first | (with_reducible assumption) | assumption)
                                obtain ⟨ad233, e233, hx233_0⟩ := Kd.at_string (Kd.R_reads' HO_49.out).2.2 x51_2 p233 q233
                                cases e233
                                replace p233 := eq_true p233
                                replace q233 := eq_true q233
                                go_wp2_with (first | ((with_reducible refine gate_callee (f := 23) rfl ?_); refine goesL_ (some 63) rfl rfl Try.func23 (by kernel_rfl) rfl #[.string ((rdOf ByteArray.empty y230 x51_2).extract 0 (a2 : Int).toNat)] rfl (by (try simp only [List.map_toArray, List.map_cons, List.map_nil]); first | done | rfl | (simp only [List.length_drop, List.length_take]; rfl)) ?_; (with_reducible refine (pack_TakeNumber.calls k2 ((rdOf ByteArray.empty y230 x51_2).extract 0 (a2 : Int).toNat) t234 t235 t236 _ A39.out).mono ?_); rintro e w' ⟨rfl, ⟨nd, rfl⟩⟩; refine ⟨_, rfl, ?_⟩) | ((with_reducible refine gate_callee (f := 21) rfl ?_); refine goesL_ (some 71) rfl rfl Try.func21 (by kernel_rfl) rfl #[.string ((rdOf ByteArray.empty y230 x51_2).extract 0 (a2 : Int).toNat)] rfl (by (try simp only [List.map_toArray, List.map_cons, List.map_nil]); first | done | rfl | (simp only [List.length_drop, List.length_take]; rfl)) ?_; (with_reducible refine (pack_TakeText.calls k2 ((rdOf ByteArray.empty y230 x51_2).extract 0 (a2 : Int).toNat) t237 t238 t239 _ A42.out).mono ?_); rintro e w' ⟨rfl, ⟨nd, rfl⟩⟩; refine ⟨_, rfl, ?_⟩) | ((with_reducible refine gate_callee (f := 27) rfl ?_); refine goesL_ (some 79) rfl rfl Try.func27 (by kernel_rfl) rfl #[.string ((rdOf ByteArray.empty y230 x51_2).extract 0 (a2 : Int).toNat)] rfl (by (try simp only [List.map_toArray, List.map_cons, List.map_nil]); first | done | rfl | (simp only [List.length_drop, List.length_take]; rfl)) ?_; (with_reducible refine (pack_TakeFrame.calls k2 ((rdOf ByteArray.empty y230 x51_2).extract 0 (a2 : Int).toNat) t240 t241 t242 _ A45.out).mono ?_); rintro e w63 ⟨rfl, hb⟩; refine ⟨_, rfl, ?_⟩; have n0_ := Aside0.mk (Kd.R_below (by (with_reducible repeat (first | apply Kd.R_alloc | apply Kd.R_drewN | apply Kd.R_drew)); exact HO_49.out) hb); have n1_ := Aside0.mk (below_step (by repeat (first | (with_reducible first | exact HB.out | apply below_alloc | apply pw_below_drewN | apply below_drew1) | exact HB.out)) hb); clear HO_49; clear HB; have HO_49 := n0_; have HB := n1_; clear n0_ n1_; (try clear hb); (try clear hb2); (try clear hk); (try clear hi)) | (go_at_call 19; (with_reducible refine (pack_Text.calls k2 a1 t243 _ A48.out).mono ?_); rintro e w64 ⟨rfl, hb⟩; have n0_ := Aside0.mk (Kd.R_below (by (with_reducible repeat (first | apply Kd.R_alloc | apply Kd.R_drewN | apply Kd.R_drew)); exact HO_49.out) hb); have n1_ := Aside0.mk (below_step (by repeat (first | (with_reducible first | exact HB.out | apply below_alloc | apply pw_below_drewN | apply below_drew1) | exact HB.out)) hb); clear HO_49; clear HB; have HO_49 := n0_; have HB := n1_; clear n0_ n1_; (try clear hb); (try clear hb2); (try clear hk); (try clear hi)))
                                go_ret
                                exact ⟨by first | rfl | (simp [errW_none, errW_some] <;> rfl) | (simp [*, errW_none, errW_some] <;> rfl), by repeat (first | (with_reducible first | exact HB.out | apply below_alloc | apply pw_below_drewN | apply below_drew1) | exact HB.out)⟩
                            · rw [if_neg c49] at H
                              have c49b0 : ((rdOf ByteArray.empty y230 x51_2).toList == t243.toList) = false := beq_eq_false_iff_ne.mpr c49
                              have c49b1 : ((rdOf ByteArray.empty y230 x51_2).toList != t243.toList) = true := bne_iff_ne.mpr c49
                              replace H := Option.bind_eq_some_iff.mp H
                              obtain ⟨t245, A650, H⟩ := H
                              replace H : (if (rdOf ByteArray.empty y230 x51_2).toList = t245.toList then (if t236 = 3 then (gafferlaw01_PackShort.l0 k2 a0 a1 a2 t226 y230 (y230.length : Int) (wrap64 (x51_2 + 1))) else (some false)) else (gafferlaw01_PackShort.l0 k2 a0 a1 a2 t226 y230 (y230.length : Int) (wrap64 (x51_2 + 1)))) = some r := H
                              have A65 := Aside0.mk A650
                              clear A650
                              by_cases c66 : (rdOf ByteArray.empty y230 x51_2).toList = t245.toList
                              · rw [if_pos c66] at H
                                have c66b0 : ((rdOf ByteArray.empty y230 x51_2).toList == t245.toList) = true := beq_iff_eq.mpr c66
                                have c66b1 : ((rdOf ByteArray.empty y230 x51_2).toList != t245.toList) = false := bne_eq_false_iff_eq.mpr c66
                                clear c66
                                by_cases c67 : t236 = 3
                                · rw [if_pos c67] at H
                                  have c67b0 : (t236 == 3) = true := beq_iff_eq.mpr c67
                                  have c67b1 : (t236 != 3) = false := bne_eq_false_iff_eq.mpr c67
                                  clear c67
                                  have H' := Aside0.mk H
                                  clear H
                                  have p233 : 0 ≤ (x51_2 : Int) := of_decide_eq_true (by first | (with_reducible assumption) | assumption)
                                  have q233 : x51_2 < (y230.length : Int) := of_decide_eq_true (by first | (with_reducible assumption) | assumption)
                                  obtain ⟨ad233, e233, hx233_0⟩ := Kd.at_string (Kd.R_reads' HO_49.out).2.2 x51_2 p233 q233
                                  cases e233
                                  replace p233 := eq_true p233
                                  replace q233 := eq_true q233
                                  go_wp2_with (first | ((with_reducible refine gate_callee (f := 23) rfl ?_); refine goesL_ (some 63) rfl rfl Try.func23 (by kernel_rfl) rfl #[.string ((rdOf ByteArray.empty y230 x51_2).extract 0 (a2 : Int).toNat)] rfl (by (try simp only [List.map_toArray, List.map_cons, List.map_nil]); first | done | rfl | (simp only [List.length_drop, List.length_take]; rfl)) ?_; (with_reducible refine (pack_TakeNumber.calls k2 ((rdOf ByteArray.empty y230 x51_2).extract 0 (a2 : Int).toNat) t234 t235 t236 _ A39.out).mono ?_); rintro e w' ⟨rfl, ⟨nd, rfl⟩⟩; refine ⟨_, rfl, ?_⟩) | ((with_reducible refine gate_callee (f := 21) rfl ?_); refine goesL_ (some 71) rfl rfl Try.func21 (by kernel_rfl) rfl #[.string ((rdOf ByteArray.empty y230 x51_2).extract 0 (a2 : Int).toNat)] rfl (by (try simp only [List.map_toArray, List.map_cons, List.map_nil]); first | done | rfl | (simp only [List.length_drop, List.length_take]; rfl)) ?_; (with_reducible refine (pack_TakeText.calls k2 ((rdOf ByteArray.empty y230 x51_2).extract 0 (a2 : Int).toNat) t237 t238 t239 _ A42.out).mono ?_); rintro e w' ⟨rfl, ⟨nd, rfl⟩⟩; refine ⟨_, rfl, ?_⟩) | ((with_reducible refine gate_callee (f := 27) rfl ?_); refine goesL_ (some 79) rfl rfl Try.func27 (by kernel_rfl) rfl #[.string ((rdOf ByteArray.empty y230 x51_2).extract 0 (a2 : Int).toNat)] rfl (by (try simp only [List.map_toArray, List.map_cons, List.map_nil]); first | done | rfl | (simp only [List.length_drop, List.length_take]; rfl)) ?_; (with_reducible refine (pack_TakeFrame.calls k2 ((rdOf ByteArray.empty y230 x51_2).extract 0 (a2 : Int).toNat) t240 t241 t242 _ A45.out).mono ?_); rintro e w68 ⟨rfl, hb⟩; refine ⟨_, rfl, ?_⟩; have n0_ := Aside0.mk (Kd.R_below (by (with_reducible repeat (first | apply Kd.R_alloc | apply Kd.R_drewN | apply Kd.R_drew)); exact HO_49.out) hb); have n1_ := Aside0.mk (below_step (by repeat (first | (with_reducible first | exact HB.out | apply below_alloc | apply pw_below_drewN | apply below_drew1) | exact HB.out)) hb); clear HO_49; clear HB; have HO_49 := n0_; have HB := n1_; clear n0_ n1_; (try clear hb); (try clear hb2); (try clear hk); (try clear hi)) | (go_at_call 19; (with_reducible refine (pack_Text.calls k2 a1 t243 _ A48.out).mono ?_); rintro e w69 ⟨rfl, hb⟩; have n0_ := Aside0.mk (Kd.R_below (by (with_reducible repeat (first | apply Kd.R_alloc | apply Kd.R_drewN | apply Kd.R_drew)); exact HO_49.out) hb); have n1_ := Aside0.mk (below_step (by repeat (first | (with_reducible first | exact HB.out | apply below_alloc | apply pw_below_drewN | apply below_drew1) | exact HB.out)) hb); clear HO_49; clear HB; have HO_49 := n0_; have HB := n1_; clear n0_ n1_; (try clear hb); (try clear hb2); (try clear hk); (try clear hi)) | (go_at_call 17; (with_reducible refine (pack_Number.calls k2 a0 t245 _ A65.out).mono ?_); rintro e w70 ⟨rfl, hb⟩; have n0_ := Aside0.mk (Kd.R_below (by (with_reducible repeat (first | apply Kd.R_alloc | apply Kd.R_drewN | apply Kd.R_drew)); exact HO_49.out) hb); have n1_ := Aside0.mk (below_step (by repeat (first | (with_reducible first | exact HB.out | apply below_alloc | apply pw_below_drewN | apply below_drew1) | exact HB.out)) hb); clear HO_49; clear HB; have HO_49 := n0_; have HB := n1_; clear n0_ n1_; (try clear hb); (try clear hb2); (try clear hk); (try clear hi)))
                                  go_roundg k2
                                  case measure => have := HJ3.out; have := HK2.out; omega
                                  case rel => exact ⟨(wrap64 (x51_2 + 1)), (by first | rfl | (simp; done) | (simp [*]; done)), H', ⟨by have := HJ3.out; have := HK2.out; omega⟩, ⟨by (with_reducible repeat (first | apply Kd.R_alloc | apply Kd.R_drewN | apply Kd.R_drew)); exact HO_49.out⟩, ⟨by repeat (first | (with_reducible first | exact HB.out | apply below_alloc | apply pw_below_drewN | apply below_drew1) | exact HB.out)⟩⟩
                                · rw [if_neg c67] at H
                                  have c67b0 : (t236 == 3) = false := beq_eq_false_iff_ne.mpr c67
                                  have c67b1 : (t236 != 3) = true := bne_iff_ne.mpr c67
                                  obtain rfl := Option.some.inj H
                                  have p233 : 0 ≤ (x51_2 : Int) := of_decide_eq_true (by first | (with_reducible assumption) | assumption)
                                  have q233 : x51_2 < (y230.length : Int) := of_decide_eq_true (by first | (with_reducible assumption) | assumption)
                                  obtain ⟨ad233, e233, hx233_0⟩ := Kd.at_string (Kd.R_reads' HO_49.out).2.2 x51_2 p233 q233
                                  cases e233
                                  replace p233 := eq_true p233
                                  replace q233 := eq_true q233
                                  go_wp2_with (first | ((with_reducible refine gate_callee (f := 23) rfl ?_); refine goesL_ (some 63) rfl rfl Try.func23 (by kernel_rfl) rfl #[.string ((rdOf ByteArray.empty y230 x51_2).extract 0 (a2 : Int).toNat)] rfl (by (try simp only [List.map_toArray, List.map_cons, List.map_nil]); first | done | rfl | (simp only [List.length_drop, List.length_take]; rfl)) ?_; (with_reducible refine (pack_TakeNumber.calls k2 ((rdOf ByteArray.empty y230 x51_2).extract 0 (a2 : Int).toNat) t234 t235 t236 _ A39.out).mono ?_); rintro e w' ⟨rfl, ⟨nd, rfl⟩⟩; refine ⟨_, rfl, ?_⟩) | ((with_reducible refine gate_callee (f := 21) rfl ?_); refine goesL_ (some 71) rfl rfl Try.func21 (by kernel_rfl) rfl #[.string ((rdOf ByteArray.empty y230 x51_2).extract 0 (a2 : Int).toNat)] rfl (by (try simp only [List.map_toArray, List.map_cons, List.map_nil]); first | done | rfl | (simp only [List.length_drop, List.length_take]; rfl)) ?_; (with_reducible refine (pack_TakeText.calls k2 ((rdOf ByteArray.empty y230 x51_2).extract 0 (a2 : Int).toNat) t237 t238 t239 _ A42.out).mono ?_); rintro e w' ⟨rfl, ⟨nd, rfl⟩⟩; refine ⟨_, rfl, ?_⟩) | ((with_reducible refine gate_callee (f := 27) rfl ?_); refine goesL_ (some 79) rfl rfl Try.func27 (by kernel_rfl) rfl #[.string ((rdOf ByteArray.empty y230 x51_2).extract 0 (a2 : Int).toNat)] rfl (by (try simp only [List.map_toArray, List.map_cons, List.map_nil]); first | done | rfl | (simp only [List.length_drop, List.length_take]; rfl)) ?_; (with_reducible refine (pack_TakeFrame.calls k2 ((rdOf ByteArray.empty y230 x51_2).extract 0 (a2 : Int).toNat) t240 t241 t242 _ A45.out).mono ?_); rintro e w71 ⟨rfl, hb⟩; refine ⟨_, rfl, ?_⟩; have n0_ := Aside0.mk (Kd.R_below (by (with_reducible repeat (first | apply Kd.R_alloc | apply Kd.R_drewN | apply Kd.R_drew)); exact HO_49.out) hb); have n1_ := Aside0.mk (below_step (by repeat (first | (with_reducible first | exact HB.out | apply below_alloc | apply pw_below_drewN | apply below_drew1) | exact HB.out)) hb); clear HO_49; clear HB; have HO_49 := n0_; have HB := n1_; clear n0_ n1_; (try clear hb); (try clear hb2); (try clear hk); (try clear hi)) | (go_at_call 19; (with_reducible refine (pack_Text.calls k2 a1 t243 _ A48.out).mono ?_); rintro e w72 ⟨rfl, hb⟩; have n0_ := Aside0.mk (Kd.R_below (by (with_reducible repeat (first | apply Kd.R_alloc | apply Kd.R_drewN | apply Kd.R_drew)); exact HO_49.out) hb); have n1_ := Aside0.mk (below_step (by repeat (first | (with_reducible first | exact HB.out | apply below_alloc | apply pw_below_drewN | apply below_drew1) | exact HB.out)) hb); clear HO_49; clear HB; have HO_49 := n0_; have HB := n1_; clear n0_ n1_; (try clear hb); (try clear hb2); (try clear hk); (try clear hi)) | (go_at_call 17; (with_reducible refine (pack_Number.calls k2 a0 t245 _ A65.out).mono ?_); rintro e w73 ⟨rfl, hb⟩; have n0_ := Aside0.mk (Kd.R_below (by (with_reducible repeat (first | apply Kd.R_alloc | apply Kd.R_drewN | apply Kd.R_drew)); exact HO_49.out) hb); have n1_ := Aside0.mk (below_step (by repeat (first | (with_reducible first | exact HB.out | apply below_alloc | apply pw_below_drewN | apply below_drew1) | exact HB.out)) hb); clear HO_49; clear HB; have HO_49 := n0_; have HB := n1_; clear n0_ n1_; (try clear hb); (try clear hb2); (try clear hk); (try clear hi)))
                                  go_ret
                                  exact ⟨by first | rfl | (simp [errW_none, errW_some] <;> rfl) | (simp [*, errW_none, errW_some] <;> rfl), by repeat (first | (with_reducible first | exact HB.out | apply below_alloc | apply pw_below_drewN | apply below_drew1) | exact HB.out)⟩
                              · rw [if_neg c66] at H
                                have c66b0 : ((rdOf ByteArray.empty y230 x51_2).toList == t245.toList) = false := beq_eq_false_iff_ne.mpr c66
                                have c66b1 : ((rdOf ByteArray.empty y230 x51_2).toList != t245.toList) = true := bne_iff_ne.mpr c66
                                have H' := Aside0.mk H
                                clear H
                                have p233 : 0 ≤ (x51_2 : Int) := of_decide_eq_true (by first | (with_reducible assumption) | assumption)
                                have q233 : x51_2 < (y230.length : Int) := of_decide_eq_true (by first | (with_reducible assumption) | assumption)
                                obtain ⟨ad233, e233, hx233_0⟩ := Kd.at_string (Kd.R_reads' HO_49.out).2.2 x51_2 p233 q233
                                cases e233
                                replace p233 := eq_true p233
                                replace q233 := eq_true q233
                                go_wp2_with (first | ((with_reducible refine gate_callee (f := 23) rfl ?_); refine goesL_ (some 63) rfl rfl Try.func23 (by kernel_rfl) rfl #[.string ((rdOf ByteArray.empty y230 x51_2).extract 0 (a2 : Int).toNat)] rfl (by (try simp only [List.map_toArray, List.map_cons, List.map_nil]); first | done | rfl | (simp only [List.length_drop, List.length_take]; rfl)) ?_; (with_reducible refine (pack_TakeNumber.calls k2 ((rdOf ByteArray.empty y230 x51_2).extract 0 (a2 : Int).toNat) t234 t235 t236 _ A39.out).mono ?_); rintro e w' ⟨rfl, ⟨nd, rfl⟩⟩; refine ⟨_, rfl, ?_⟩) | ((with_reducible refine gate_callee (f := 21) rfl ?_); refine goesL_ (some 71) rfl rfl Try.func21 (by kernel_rfl) rfl #[.string ((rdOf ByteArray.empty y230 x51_2).extract 0 (a2 : Int).toNat)] rfl (by (try simp only [List.map_toArray, List.map_cons, List.map_nil]); first | done | rfl | (simp only [List.length_drop, List.length_take]; rfl)) ?_; (with_reducible refine (pack_TakeText.calls k2 ((rdOf ByteArray.empty y230 x51_2).extract 0 (a2 : Int).toNat) t237 t238 t239 _ A42.out).mono ?_); rintro e w' ⟨rfl, ⟨nd, rfl⟩⟩; refine ⟨_, rfl, ?_⟩) | ((with_reducible refine gate_callee (f := 27) rfl ?_); refine goesL_ (some 79) rfl rfl Try.func27 (by kernel_rfl) rfl #[.string ((rdOf ByteArray.empty y230 x51_2).extract 0 (a2 : Int).toNat)] rfl (by (try simp only [List.map_toArray, List.map_cons, List.map_nil]); first | done | rfl | (simp only [List.length_drop, List.length_take]; rfl)) ?_; (with_reducible refine (pack_TakeFrame.calls k2 ((rdOf ByteArray.empty y230 x51_2).extract 0 (a2 : Int).toNat) t240 t241 t242 _ A45.out).mono ?_); rintro e w74 ⟨rfl, hb⟩; refine ⟨_, rfl, ?_⟩; have n0_ := Aside0.mk (Kd.R_below (by (with_reducible repeat (first | apply Kd.R_alloc | apply Kd.R_drewN | apply Kd.R_drew)); exact HO_49.out) hb); have n1_ := Aside0.mk (below_step (by repeat (first | (with_reducible first | exact HB.out | apply below_alloc | apply pw_below_drewN | apply below_drew1) | exact HB.out)) hb); clear HO_49; clear HB; have HO_49 := n0_; have HB := n1_; clear n0_ n1_; (try clear hb); (try clear hb2); (try clear hk); (try clear hi)) | (go_at_call 19; (with_reducible refine (pack_Text.calls k2 a1 t243 _ A48.out).mono ?_); rintro e w75 ⟨rfl, hb⟩; have n0_ := Aside0.mk (Kd.R_below (by (with_reducible repeat (first | apply Kd.R_alloc | apply Kd.R_drewN | apply Kd.R_drew)); exact HO_49.out) hb); have n1_ := Aside0.mk (below_step (by repeat (first | (with_reducible first | exact HB.out | apply below_alloc | apply pw_below_drewN | apply below_drew1) | exact HB.out)) hb); clear HO_49; clear HB; have HO_49 := n0_; have HB := n1_; clear n0_ n1_; (try clear hb); (try clear hb2); (try clear hk); (try clear hi)) | (go_at_call 17; (with_reducible refine (pack_Number.calls k2 a0 t245 _ A65.out).mono ?_); rintro e w76 ⟨rfl, hb⟩; have n0_ := Aside0.mk (Kd.R_below (by (with_reducible repeat (first | apply Kd.R_alloc | apply Kd.R_drewN | apply Kd.R_drew)); exact HO_49.out) hb); have n1_ := Aside0.mk (below_step (by repeat (first | (with_reducible first | exact HB.out | apply below_alloc | apply pw_below_drewN | apply below_drew1) | exact HB.out)) hb); clear HO_49; clear HB; have HO_49 := n0_; have HB := n1_; clear n0_ n1_; (try clear hb); (try clear hb2); (try clear hk); (try clear hi)))
                                go_roundg k2
                                case measure => have := HJ3.out; have := HK2.out; omega
                                case rel => exact ⟨(wrap64 (x51_2 + 1)), (by first | rfl | (simp; done) | (simp [*]; done)), H', ⟨by have := HJ3.out; have := HK2.out; omega⟩, ⟨by (with_reducible repeat (first | apply Kd.R_alloc | apply Kd.R_drewN | apply Kd.R_drew)); exact HO_49.out⟩, ⟨by repeat (first | (with_reducible first | exact HB.out | apply below_alloc | apply pw_below_drewN | apply below_drew1) | exact HB.out)⟩⟩
                          · rw [if_neg c47] at H
                            have c47b0 : (t242 == 3) = false := beq_eq_false_iff_ne.mpr c47
                            have c47b1 : (t242 != 3) = true := bne_iff_ne.mpr c47
                            obtain rfl := Option.some.inj H
                            have p233 : 0 ≤ (x51_2 : Int) := of_decide_eq_true (by first | (with_reducible assumption) | assumption)
                            have q233 : x51_2 < (y230.length : Int) := of_decide_eq_true (by first | (with_reducible assumption) | assumption)
                            obtain ⟨ad233, e233, hx233_0⟩ := Kd.at_string (Kd.R_reads' HO_49.out).2.2 x51_2 p233 q233
                            cases e233
                            replace p233 := eq_true p233
                            replace q233 := eq_true q233
                            go_wp2_with (first | ((with_reducible refine gate_callee (f := 23) rfl ?_); refine goesL_ (some 63) rfl rfl Try.func23 (by kernel_rfl) rfl #[.string ((rdOf ByteArray.empty y230 x51_2).extract 0 (a2 : Int).toNat)] rfl (by (try simp only [List.map_toArray, List.map_cons, List.map_nil]); first | done | rfl | (simp only [List.length_drop, List.length_take]; rfl)) ?_; (with_reducible refine (pack_TakeNumber.calls k2 ((rdOf ByteArray.empty y230 x51_2).extract 0 (a2 : Int).toNat) t234 t235 t236 _ A39.out).mono ?_); rintro e w' ⟨rfl, ⟨nd, rfl⟩⟩; refine ⟨_, rfl, ?_⟩) | ((with_reducible refine gate_callee (f := 21) rfl ?_); refine goesL_ (some 71) rfl rfl Try.func21 (by kernel_rfl) rfl #[.string ((rdOf ByteArray.empty y230 x51_2).extract 0 (a2 : Int).toNat)] rfl (by (try simp only [List.map_toArray, List.map_cons, List.map_nil]); first | done | rfl | (simp only [List.length_drop, List.length_take]; rfl)) ?_; (with_reducible refine (pack_TakeText.calls k2 ((rdOf ByteArray.empty y230 x51_2).extract 0 (a2 : Int).toNat) t237 t238 t239 _ A42.out).mono ?_); rintro e w' ⟨rfl, ⟨nd, rfl⟩⟩; refine ⟨_, rfl, ?_⟩) | ((with_reducible refine gate_callee (f := 27) rfl ?_); refine goesL_ (some 79) rfl rfl Try.func27 (by kernel_rfl) rfl #[.string ((rdOf ByteArray.empty y230 x51_2).extract 0 (a2 : Int).toNat)] rfl (by (try simp only [List.map_toArray, List.map_cons, List.map_nil]); first | done | rfl | (simp only [List.length_drop, List.length_take]; rfl)) ?_; (with_reducible refine (pack_TakeFrame.calls k2 ((rdOf ByteArray.empty y230 x51_2).extract 0 (a2 : Int).toNat) t240 t241 t242 _ A45.out).mono ?_); rintro e w77 ⟨rfl, hb⟩; refine ⟨_, rfl, ?_⟩; have n0_ := Aside0.mk (Kd.R_below (by (with_reducible repeat (first | apply Kd.R_alloc | apply Kd.R_drewN | apply Kd.R_drew)); exact HO_49.out) hb); have n1_ := Aside0.mk (below_step (by repeat (first | (with_reducible first | exact HB.out | apply below_alloc | apply pw_below_drewN | apply below_drew1) | exact HB.out)) hb); clear HO_49; clear HB; have HO_49 := n0_; have HB := n1_; clear n0_ n1_; (try clear hb); (try clear hb2); (try clear hk); (try clear hi)))
                            go_ret
                            exact ⟨by first | rfl | (simp [errW_none, errW_some] <;> rfl) | (simp [*, errW_none, errW_some] <;> rfl), by repeat (first | (with_reducible first | exact HB.out | apply below_alloc | apply pw_below_drewN | apply below_drew1) | exact HB.out)⟩
                        · rw [if_neg c46] at H
                          have c46b0 : ((rdOf ByteArray.empty y230 x51_2).toList == t226.toList) = false := beq_eq_false_iff_ne.mpr c46
                          have c46b1 : ((rdOf ByteArray.empty y230 x51_2).toList != t226.toList) = true := bne_iff_ne.mpr c46
                          replace H := Option.bind_eq_some_iff.mp H
                          obtain ⟨t246, A780, H⟩ := H
                          replace H : (if (rdOf ByteArray.empty y230 x51_2).toList = t246.toList then (if t239 = 3 then ((pack_Number.f k2 a0).bind fun t247 => (if (rdOf ByteArray.empty y230 x51_2).toList = t247.toList then (if t236 = 3 then (gafferlaw01_PackShort.l0 k2 a0 a1 a2 t226 y230 (y230.length : Int) (wrap64 (x51_2 + 1))) else (some false)) else (gafferlaw01_PackShort.l0 k2 a0 a1 a2 t226 y230 (y230.length : Int) (wrap64 (x51_2 + 1))))) else (some false)) else ((pack_Number.f k2 a0).bind fun t248 => (if (rdOf ByteArray.empty y230 x51_2).toList = t248.toList then (if t236 = 3 then (gafferlaw01_PackShort.l0 k2 a0 a1 a2 t226 y230 (y230.length : Int) (wrap64 (x51_2 + 1))) else (some false)) else (gafferlaw01_PackShort.l0 k2 a0 a1 a2 t226 y230 (y230.length : Int) (wrap64 (x51_2 + 1)))))) = some r := H
                          have A78 := Aside0.mk A780
                          clear A780
                          by_cases c79 : (rdOf ByteArray.empty y230 x51_2).toList = t246.toList
                          · rw [if_pos c79] at H
                            have c79b0 : ((rdOf ByteArray.empty y230 x51_2).toList == t246.toList) = true := beq_iff_eq.mpr c79
                            have c79b1 : ((rdOf ByteArray.empty y230 x51_2).toList != t246.toList) = false := bne_eq_false_iff_eq.mpr c79
                            clear c79
                            by_cases c80 : t239 = 3
                            · rw [if_pos c80] at H
                              have c80b0 : (t239 == 3) = true := beq_iff_eq.mpr c80
                              have c80b1 : (t239 != 3) = false := bne_eq_false_iff_eq.mpr c80
                              clear c80
                              replace H := Option.bind_eq_some_iff.mp H
                              obtain ⟨t247, A810, H⟩ := H
                              replace H : (if (rdOf ByteArray.empty y230 x51_2).toList = t247.toList then (if t236 = 3 then (gafferlaw01_PackShort.l0 k2 a0 a1 a2 t226 y230 (y230.length : Int) (wrap64 (x51_2 + 1))) else (some false)) else (gafferlaw01_PackShort.l0 k2 a0 a1 a2 t226 y230 (y230.length : Int) (wrap64 (x51_2 + 1)))) = some r := H
                              have A81 := Aside0.mk A810
                              clear A810
                              by_cases c82 : (rdOf ByteArray.empty y230 x51_2).toList = t247.toList
                              · rw [if_pos c82] at H
                                have c82b0 : ((rdOf ByteArray.empty y230 x51_2).toList == t247.toList) = true := beq_iff_eq.mpr c82
                                have c82b1 : ((rdOf ByteArray.empty y230 x51_2).toList != t247.toList) = false := bne_eq_false_iff_eq.mpr c82
                                clear c82
                                by_cases c83 : t236 = 3
                                · rw [if_pos c83] at H
                                  have c83b0 : (t236 == 3) = true := beq_iff_eq.mpr c83
                                  have c83b1 : (t236 != 3) = false := bne_eq_false_iff_eq.mpr c83
                                  clear c83
                                  have H' := Aside0.mk H
                                  clear H
                                  have p233 : 0 ≤ (x51_2 : Int) := of_decide_eq_true (by first | (with_reducible assumption) | assumption)
                                  have q233 : x51_2 < (y230.length : Int) := of_decide_eq_true (by first | (with_reducible assumption) | assumption)
                                  obtain ⟨ad233, e233, hx233_0⟩ := Kd.at_string (Kd.R_reads' HO_49.out).2.2 x51_2 p233 q233
                                  cases e233
                                  replace p233 := eq_true p233
                                  replace q233 := eq_true q233
                                  go_wp2_with (first | ((with_reducible refine gate_callee (f := 23) rfl ?_); refine goesL_ (some 63) rfl rfl Try.func23 (by kernel_rfl) rfl #[.string ((rdOf ByteArray.empty y230 x51_2).extract 0 (a2 : Int).toNat)] rfl (by (try simp only [List.map_toArray, List.map_cons, List.map_nil]); first | done | rfl | (simp only [List.length_drop, List.length_take]; rfl)) ?_; (with_reducible refine (pack_TakeNumber.calls k2 ((rdOf ByteArray.empty y230 x51_2).extract 0 (a2 : Int).toNat) t234 t235 t236 _ A39.out).mono ?_); rintro e w' ⟨rfl, ⟨nd, rfl⟩⟩; refine ⟨_, rfl, ?_⟩) | ((with_reducible refine gate_callee (f := 21) rfl ?_); refine goesL_ (some 71) rfl rfl Try.func21 (by kernel_rfl) rfl #[.string ((rdOf ByteArray.empty y230 x51_2).extract 0 (a2 : Int).toNat)] rfl (by (try simp only [List.map_toArray, List.map_cons, List.map_nil]); first | done | rfl | (simp only [List.length_drop, List.length_take]; rfl)) ?_; (with_reducible refine (pack_TakeText.calls k2 ((rdOf ByteArray.empty y230 x51_2).extract 0 (a2 : Int).toNat) t237 t238 t239 _ A42.out).mono ?_); rintro e w' ⟨rfl, ⟨nd, rfl⟩⟩; refine ⟨_, rfl, ?_⟩) | ((with_reducible refine gate_callee (f := 27) rfl ?_); refine goesL_ (some 79) rfl rfl Try.func27 (by kernel_rfl) rfl #[.string ((rdOf ByteArray.empty y230 x51_2).extract 0 (a2 : Int).toNat)] rfl (by (try simp only [List.map_toArray, List.map_cons, List.map_nil]); first | done | rfl | (simp only [List.length_drop, List.length_take]; rfl)) ?_; (with_reducible refine (pack_TakeFrame.calls k2 ((rdOf ByteArray.empty y230 x51_2).extract 0 (a2 : Int).toNat) t240 t241 t242 _ A45.out).mono ?_); rintro e w84 ⟨rfl, hb⟩; refine ⟨_, rfl, ?_⟩; have n0_ := Aside0.mk (Kd.R_below (by (with_reducible repeat (first | apply Kd.R_alloc | apply Kd.R_drewN | apply Kd.R_drew)); exact HO_49.out) hb); have n1_ := Aside0.mk (below_step (by repeat (first | (with_reducible first | exact HB.out | apply below_alloc | apply pw_below_drewN | apply below_drew1) | exact HB.out)) hb); clear HO_49; clear HB; have HO_49 := n0_; have HB := n1_; clear n0_ n1_; (try clear hb); (try clear hb2); (try clear hk); (try clear hi)) | (go_at_call 19; (with_reducible refine (pack_Text.calls k2 a1 t246 _ A78.out).mono ?_); rintro e w85 ⟨rfl, hb⟩; have n0_ := Aside0.mk (Kd.R_below (by (with_reducible repeat (first | apply Kd.R_alloc | apply Kd.R_drewN | apply Kd.R_drew)); exact HO_49.out) hb); have n1_ := Aside0.mk (below_step (by repeat (first | (with_reducible first | exact HB.out | apply below_alloc | apply pw_below_drewN | apply below_drew1) | exact HB.out)) hb); clear HO_49; clear HB; have HO_49 := n0_; have HB := n1_; clear n0_ n1_; (try clear hb); (try clear hb2); (try clear hk); (try clear hi)) | (go_at_call 17; (with_reducible refine (pack_Number.calls k2 a0 t247 _ A81.out).mono ?_); rintro e w86 ⟨rfl, hb⟩; have n0_ := Aside0.mk (Kd.R_below (by (with_reducible repeat (first | apply Kd.R_alloc | apply Kd.R_drewN | apply Kd.R_drew)); exact HO_49.out) hb); have n1_ := Aside0.mk (below_step (by repeat (first | (with_reducible first | exact HB.out | apply below_alloc | apply pw_below_drewN | apply below_drew1) | exact HB.out)) hb); clear HO_49; clear HB; have HO_49 := n0_; have HB := n1_; clear n0_ n1_; (try clear hb); (try clear hb2); (try clear hk); (try clear hi)))
                                  go_roundg k2
                                  case measure => have := HJ3.out; have := HK2.out; omega
                                  case rel => exact ⟨(wrap64 (x51_2 + 1)), (by first | rfl | (simp; done) | (simp [*]; done)), H', ⟨by have := HJ3.out; have := HK2.out; omega⟩, ⟨by (with_reducible repeat (first | apply Kd.R_alloc | apply Kd.R_drewN | apply Kd.R_drew)); exact HO_49.out⟩, ⟨by repeat (first | (with_reducible first | exact HB.out | apply below_alloc | apply pw_below_drewN | apply below_drew1) | exact HB.out)⟩⟩
                                · rw [if_neg c83] at H
                                  have c83b0 : (t236 == 3) = false := beq_eq_false_iff_ne.mpr c83
                                  have c83b1 : (t236 != 3) = true := bne_iff_ne.mpr c83
                                  obtain rfl := Option.some.inj H
                                  have p233 : 0 ≤ (x51_2 : Int) := of_decide_eq_true (by first | (with_reducible assumption) | assumption)
                                  have q233 : x51_2 < (y230.length : Int) := of_decide_eq_true (by first | (with_reducible assumption) | assumption)
                                  obtain ⟨ad233, e233, hx233_0⟩ := Kd.at_string (Kd.R_reads' HO_49.out).2.2 x51_2 p233 q233
                                  cases e233
                                  replace p233 := eq_true p233
                                  replace q233 := eq_true q233
                                  go_wp2_with (first | ((with_reducible refine gate_callee (f := 23) rfl ?_); refine goesL_ (some 63) rfl rfl Try.func23 (by kernel_rfl) rfl #[.string ((rdOf ByteArray.empty y230 x51_2).extract 0 (a2 : Int).toNat)] rfl (by (try simp only [List.map_toArray, List.map_cons, List.map_nil]); first | done | rfl | (simp only [List.length_drop, List.length_take]; rfl)) ?_; (with_reducible refine (pack_TakeNumber.calls k2 ((rdOf ByteArray.empty y230 x51_2).extract 0 (a2 : Int).toNat) t234 t235 t236 _ A39.out).mono ?_); rintro e w' ⟨rfl, ⟨nd, rfl⟩⟩; refine ⟨_, rfl, ?_⟩) | ((with_reducible refine gate_callee (f := 21) rfl ?_); refine goesL_ (some 71) rfl rfl Try.func21 (by kernel_rfl) rfl #[.string ((rdOf ByteArray.empty y230 x51_2).extract 0 (a2 : Int).toNat)] rfl (by (try simp only [List.map_toArray, List.map_cons, List.map_nil]); first | done | rfl | (simp only [List.length_drop, List.length_take]; rfl)) ?_; (with_reducible refine (pack_TakeText.calls k2 ((rdOf ByteArray.empty y230 x51_2).extract 0 (a2 : Int).toNat) t237 t238 t239 _ A42.out).mono ?_); rintro e w' ⟨rfl, ⟨nd, rfl⟩⟩; refine ⟨_, rfl, ?_⟩) | ((with_reducible refine gate_callee (f := 27) rfl ?_); refine goesL_ (some 79) rfl rfl Try.func27 (by kernel_rfl) rfl #[.string ((rdOf ByteArray.empty y230 x51_2).extract 0 (a2 : Int).toNat)] rfl (by (try simp only [List.map_toArray, List.map_cons, List.map_nil]); first | done | rfl | (simp only [List.length_drop, List.length_take]; rfl)) ?_; (with_reducible refine (pack_TakeFrame.calls k2 ((rdOf ByteArray.empty y230 x51_2).extract 0 (a2 : Int).toNat) t240 t241 t242 _ A45.out).mono ?_); rintro e w87 ⟨rfl, hb⟩; refine ⟨_, rfl, ?_⟩; have n0_ := Aside0.mk (Kd.R_below (by (with_reducible repeat (first | apply Kd.R_alloc | apply Kd.R_drewN | apply Kd.R_drew)); exact HO_49.out) hb); have n1_ := Aside0.mk (below_step (by repeat (first | (with_reducible first | exact HB.out | apply below_alloc | apply pw_below_drewN | apply below_drew1) | exact HB.out)) hb); clear HO_49; clear HB; have HO_49 := n0_; have HB := n1_; clear n0_ n1_; (try clear hb); (try clear hb2); (try clear hk); (try clear hi)) | (go_at_call 19; (with_reducible refine (pack_Text.calls k2 a1 t246 _ A78.out).mono ?_); rintro e w88 ⟨rfl, hb⟩; have n0_ := Aside0.mk (Kd.R_below (by (with_reducible repeat (first | apply Kd.R_alloc | apply Kd.R_drewN | apply Kd.R_drew)); exact HO_49.out) hb); have n1_ := Aside0.mk (below_step (by repeat (first | (with_reducible first | exact HB.out | apply below_alloc | apply pw_below_drewN | apply below_drew1) | exact HB.out)) hb); clear HO_49; clear HB; have HO_49 := n0_; have HB := n1_; clear n0_ n1_; (try clear hb); (try clear hb2); (try clear hk); (try clear hi)) | (go_at_call 17; (with_reducible refine (pack_Number.calls k2 a0 t247 _ A81.out).mono ?_); rintro e w89 ⟨rfl, hb⟩; have n0_ := Aside0.mk (Kd.R_below (by (with_reducible repeat (first | apply Kd.R_alloc | apply Kd.R_drewN | apply Kd.R_drew)); exact HO_49.out) hb); have n1_ := Aside0.mk (below_step (by repeat (first | (with_reducible first | exact HB.out | apply below_alloc | apply pw_below_drewN | apply below_drew1) | exact HB.out)) hb); clear HO_49; clear HB; have HO_49 := n0_; have HB := n1_; clear n0_ n1_; (try clear hb); (try clear hb2); (try clear hk); (try clear hi)))
                                  go_ret
                                  exact ⟨by first | rfl | (simp [errW_none, errW_some] <;> rfl) | (simp [*, errW_none, errW_some] <;> rfl), by repeat (first | (with_reducible first | exact HB.out | apply below_alloc | apply pw_below_drewN | apply below_drew1) | exact HB.out)⟩
                              · rw [if_neg c82] at H
                                have c82b0 : ((rdOf ByteArray.empty y230 x51_2).toList == t247.toList) = false := beq_eq_false_iff_ne.mpr c82
                                have c82b1 : ((rdOf ByteArray.empty y230 x51_2).toList != t247.toList) = true := bne_iff_ne.mpr c82
                                have H' := Aside0.mk H
                                clear H
                                have p233 : 0 ≤ (x51_2 : Int) := of_decide_eq_true (by first | (with_reducible assumption) | assumption)
                                have q233 : x51_2 < (y230.length : Int) := of_decide_eq_true (by first | (with_reducible assumption) | assumption)
                                obtain ⟨ad233, e233, hx233_0⟩ := Kd.at_string (Kd.R_reads' HO_49.out).2.2 x51_2 p233 q233
                                cases e233
                                replace p233 := eq_true p233
                                replace q233 := eq_true q233
                                go_wp2_with (first | ((with_reducible refine gate_callee (f := 23) rfl ?_); refine goesL_ (some 63) rfl rfl Try.func23 (by kernel_rfl) rfl #[.string ((rdOf ByteArray.empty y230 x51_2).extract 0 (a2 : Int).toNat)] rfl (by (try simp only [List.map_toArray, List.map_cons, List.map_nil]); first | done | rfl | (simp only [List.length_drop, List.length_take]; rfl)) ?_; (with_reducible refine (pack_TakeNumber.calls k2 ((rdOf ByteArray.empty y230 x51_2).extract 0 (a2 : Int).toNat) t234 t235 t236 _ A39.out).mono ?_); rintro e w' ⟨rfl, ⟨nd, rfl⟩⟩; refine ⟨_, rfl, ?_⟩) | ((with_reducible refine gate_callee (f := 21) rfl ?_); refine goesL_ (some 71) rfl rfl Try.func21 (by kernel_rfl) rfl #[.string ((rdOf ByteArray.empty y230 x51_2).extract 0 (a2 : Int).toNat)] rfl (by (try simp only [List.map_toArray, List.map_cons, List.map_nil]); first | done | rfl | (simp only [List.length_drop, List.length_take]; rfl)) ?_; (with_reducible refine (pack_TakeText.calls k2 ((rdOf ByteArray.empty y230 x51_2).extract 0 (a2 : Int).toNat) t237 t238 t239 _ A42.out).mono ?_); rintro e w' ⟨rfl, ⟨nd, rfl⟩⟩; refine ⟨_, rfl, ?_⟩) | ((with_reducible refine gate_callee (f := 27) rfl ?_); refine goesL_ (some 79) rfl rfl Try.func27 (by kernel_rfl) rfl #[.string ((rdOf ByteArray.empty y230 x51_2).extract 0 (a2 : Int).toNat)] rfl (by (try simp only [List.map_toArray, List.map_cons, List.map_nil]); first | done | rfl | (simp only [List.length_drop, List.length_take]; rfl)) ?_; (with_reducible refine (pack_TakeFrame.calls k2 ((rdOf ByteArray.empty y230 x51_2).extract 0 (a2 : Int).toNat) t240 t241 t242 _ A45.out).mono ?_); rintro e w90 ⟨rfl, hb⟩; refine ⟨_, rfl, ?_⟩; have n0_ := Aside0.mk (Kd.R_below (by (with_reducible repeat (first | apply Kd.R_alloc | apply Kd.R_drewN | apply Kd.R_drew)); exact HO_49.out) hb); have n1_ := Aside0.mk (below_step (by repeat (first | (with_reducible first | exact HB.out | apply below_alloc | apply pw_below_drewN | apply below_drew1) | exact HB.out)) hb); clear HO_49; clear HB; have HO_49 := n0_; have HB := n1_; clear n0_ n1_; (try clear hb); (try clear hb2); (try clear hk); (try clear hi)) | (go_at_call 19; (with_reducible refine (pack_Text.calls k2 a1 t246 _ A78.out).mono ?_); rintro e w91 ⟨rfl, hb⟩; have n0_ := Aside0.mk (Kd.R_below (by (with_reducible repeat (first | apply Kd.R_alloc | apply Kd.R_drewN | apply Kd.R_drew)); exact HO_49.out) hb); have n1_ := Aside0.mk (below_step (by repeat (first | (with_reducible first | exact HB.out | apply below_alloc | apply pw_below_drewN | apply below_drew1) | exact HB.out)) hb); clear HO_49; clear HB; have HO_49 := n0_; have HB := n1_; clear n0_ n1_; (try clear hb); (try clear hb2); (try clear hk); (try clear hi)) | (go_at_call 17; (with_reducible refine (pack_Number.calls k2 a0 t247 _ A81.out).mono ?_); rintro e w92 ⟨rfl, hb⟩; have n0_ := Aside0.mk (Kd.R_below (by (with_reducible repeat (first | apply Kd.R_alloc | apply Kd.R_drewN | apply Kd.R_drew)); exact HO_49.out) hb); have n1_ := Aside0.mk (below_step (by repeat (first | (with_reducible first | exact HB.out | apply below_alloc | apply pw_below_drewN | apply below_drew1) | exact HB.out)) hb); clear HO_49; clear HB; have HO_49 := n0_; have HB := n1_; clear n0_ n1_; (try clear hb); (try clear hb2); (try clear hk); (try clear hi)))
                                go_roundg k2
                                case measure => have := HJ3.out; have := HK2.out; omega
                                case rel => exact ⟨(wrap64 (x51_2 + 1)), (by first | rfl | (simp; done) | (simp [*]; done)), H', ⟨by have := HJ3.out; have := HK2.out; omega⟩, ⟨by (with_reducible repeat (first | apply Kd.R_alloc | apply Kd.R_drewN | apply Kd.R_drew)); exact HO_49.out⟩, ⟨by repeat (first | (with_reducible first | exact HB.out | apply below_alloc | apply pw_below_drewN | apply below_drew1) | exact HB.out)⟩⟩
                            · rw [if_neg c80] at H
                              have c80b0 : (t239 == 3) = false := beq_eq_false_iff_ne.mpr c80
                              have c80b1 : (t239 != 3) = true := bne_iff_ne.mpr c80
                              obtain rfl := Option.some.inj H
                              have p233 : 0 ≤ (x51_2 : Int) := of_decide_eq_true (by first | (with_reducible assumption) | assumption)
                              have q233 : x51_2 < (y230.length : Int) := of_decide_eq_true (by first | (with_reducible assumption) | assumption)
                              obtain ⟨ad233, e233, hx233_0⟩ := Kd.at_string (Kd.R_reads' HO_49.out).2.2 x51_2 p233 q233
                              cases e233
                              replace p233 := eq_true p233
                              replace q233 := eq_true q233
                              go_wp2_with (first | ((with_reducible refine gate_callee (f := 23) rfl ?_); refine goesL_ (some 63) rfl rfl Try.func23 (by kernel_rfl) rfl #[.string ((rdOf ByteArray.empty y230 x51_2).extract 0 (a2 : Int).toNat)] rfl (by (try simp only [List.map_toArray, List.map_cons, List.map_nil]); first | done | rfl | (simp only [List.length_drop, List.length_take]; rfl)) ?_; (with_reducible refine (pack_TakeNumber.calls k2 ((rdOf ByteArray.empty y230 x51_2).extract 0 (a2 : Int).toNat) t234 t235 t236 _ A39.out).mono ?_); rintro e w' ⟨rfl, ⟨nd, rfl⟩⟩; refine ⟨_, rfl, ?_⟩) | ((with_reducible refine gate_callee (f := 21) rfl ?_); refine goesL_ (some 71) rfl rfl Try.func21 (by kernel_rfl) rfl #[.string ((rdOf ByteArray.empty y230 x51_2).extract 0 (a2 : Int).toNat)] rfl (by (try simp only [List.map_toArray, List.map_cons, List.map_nil]); first | done | rfl | (simp only [List.length_drop, List.length_take]; rfl)) ?_; (with_reducible refine (pack_TakeText.calls k2 ((rdOf ByteArray.empty y230 x51_2).extract 0 (a2 : Int).toNat) t237 t238 t239 _ A42.out).mono ?_); rintro e w' ⟨rfl, ⟨nd, rfl⟩⟩; refine ⟨_, rfl, ?_⟩) | ((with_reducible refine gate_callee (f := 27) rfl ?_); refine goesL_ (some 79) rfl rfl Try.func27 (by kernel_rfl) rfl #[.string ((rdOf ByteArray.empty y230 x51_2).extract 0 (a2 : Int).toNat)] rfl (by (try simp only [List.map_toArray, List.map_cons, List.map_nil]); first | done | rfl | (simp only [List.length_drop, List.length_take]; rfl)) ?_; (with_reducible refine (pack_TakeFrame.calls k2 ((rdOf ByteArray.empty y230 x51_2).extract 0 (a2 : Int).toNat) t240 t241 t242 _ A45.out).mono ?_); rintro e w93 ⟨rfl, hb⟩; refine ⟨_, rfl, ?_⟩; have n0_ := Aside0.mk (Kd.R_below (by (with_reducible repeat (first | apply Kd.R_alloc | apply Kd.R_drewN | apply Kd.R_drew)); exact HO_49.out) hb); have n1_ := Aside0.mk (below_step (by repeat (first | (with_reducible first | exact HB.out | apply below_alloc | apply pw_below_drewN | apply below_drew1) | exact HB.out)) hb); clear HO_49; clear HB; have HO_49 := n0_; have HB := n1_; clear n0_ n1_; (try clear hb); (try clear hb2); (try clear hk); (try clear hi)) | (go_at_call 19; (with_reducible refine (pack_Text.calls k2 a1 t246 _ A78.out).mono ?_); rintro e w94 ⟨rfl, hb⟩; have n0_ := Aside0.mk (Kd.R_below (by (with_reducible repeat (first | apply Kd.R_alloc | apply Kd.R_drewN | apply Kd.R_drew)); exact HO_49.out) hb); have n1_ := Aside0.mk (below_step (by repeat (first | (with_reducible first | exact HB.out | apply below_alloc | apply pw_below_drewN | apply below_drew1) | exact HB.out)) hb); clear HO_49; clear HB; have HO_49 := n0_; have HB := n1_; clear n0_ n1_; (try clear hb); (try clear hb2); (try clear hk); (try clear hi)))
                              go_ret
                              exact ⟨by first | rfl | (simp [errW_none, errW_some] <;> rfl) | (simp [*, errW_none, errW_some] <;> rfl), by repeat (first | (with_reducible first | exact HB.out | apply below_alloc | apply pw_below_drewN | apply below_drew1) | exact HB.out)⟩
                          · rw [if_neg c79] at H
                            have c79b0 : ((rdOf ByteArray.empty y230 x51_2).toList == t246.toList) = false := beq_eq_false_iff_ne.mpr c79
                            have c79b1 : ((rdOf ByteArray.empty y230 x51_2).toList != t246.toList) = true := bne_iff_ne.mpr c79
                            replace H := Option.bind_eq_some_iff.mp H
                            obtain ⟨t248, A950, H⟩ := H
                            replace H : (if (rdOf ByteArray.empty y230 x51_2).toList = t248.toList then (if t236 = 3 then (gafferlaw01_PackShort.l0 k2 a0 a1 a2 t226 y230 (y230.length : Int) (wrap64 (x51_2 + 1))) else (some false)) else (gafferlaw01_PackShort.l0 k2 a0 a1 a2 t226 y230 (y230.length : Int) (wrap64 (x51_2 + 1)))) = some r := H
                            have A95 := Aside0.mk A950
                            clear A950
                            by_cases c96 : (rdOf ByteArray.empty y230 x51_2).toList = t248.toList
                            · rw [if_pos c96] at H
                              have c96b0 : ((rdOf ByteArray.empty y230 x51_2).toList == t248.toList) = true := beq_iff_eq.mpr c96
                              have c96b1 : ((rdOf ByteArray.empty y230 x51_2).toList != t248.toList) = false := bne_eq_false_iff_eq.mpr c96
                              clear c96
                              by_cases c97 : t236 = 3
                              · rw [if_pos c97] at H
                                have c97b0 : (t236 == 3) = true := beq_iff_eq.mpr c97
                                have c97b1 : (t236 != 3) = false := bne_eq_false_iff_eq.mpr c97
                                clear c97
                                have H' := Aside0.mk H
                                clear H
                                have p233 : 0 ≤ (x51_2 : Int) := of_decide_eq_true (by first | (with_reducible assumption) | assumption)
                                have q233 : x51_2 < (y230.length : Int) := of_decide_eq_true (by first | (with_reducible assumption) | assumption)
                                obtain ⟨ad233, e233, hx233_0⟩ := Kd.at_string (Kd.R_reads' HO_49.out).2.2 x51_2 p233 q233
                                cases e233
                                replace p233 := eq_true p233
                                replace q233 := eq_true q233
                                go_wp2_with (first | ((with_reducible refine gate_callee (f := 23) rfl ?_); refine goesL_ (some 63) rfl rfl Try.func23 (by kernel_rfl) rfl #[.string ((rdOf ByteArray.empty y230 x51_2).extract 0 (a2 : Int).toNat)] rfl (by (try simp only [List.map_toArray, List.map_cons, List.map_nil]); first | done | rfl | (simp only [List.length_drop, List.length_take]; rfl)) ?_; (with_reducible refine (pack_TakeNumber.calls k2 ((rdOf ByteArray.empty y230 x51_2).extract 0 (a2 : Int).toNat) t234 t235 t236 _ A39.out).mono ?_); rintro e w' ⟨rfl, ⟨nd, rfl⟩⟩; refine ⟨_, rfl, ?_⟩) | ((with_reducible refine gate_callee (f := 21) rfl ?_); refine goesL_ (some 71) rfl rfl Try.func21 (by kernel_rfl) rfl #[.string ((rdOf ByteArray.empty y230 x51_2).extract 0 (a2 : Int).toNat)] rfl (by (try simp only [List.map_toArray, List.map_cons, List.map_nil]); first | done | rfl | (simp only [List.length_drop, List.length_take]; rfl)) ?_; (with_reducible refine (pack_TakeText.calls k2 ((rdOf ByteArray.empty y230 x51_2).extract 0 (a2 : Int).toNat) t237 t238 t239 _ A42.out).mono ?_); rintro e w' ⟨rfl, ⟨nd, rfl⟩⟩; refine ⟨_, rfl, ?_⟩) | ((with_reducible refine gate_callee (f := 27) rfl ?_); refine goesL_ (some 79) rfl rfl Try.func27 (by kernel_rfl) rfl #[.string ((rdOf ByteArray.empty y230 x51_2).extract 0 (a2 : Int).toNat)] rfl (by (try simp only [List.map_toArray, List.map_cons, List.map_nil]); first | done | rfl | (simp only [List.length_drop, List.length_take]; rfl)) ?_; (with_reducible refine (pack_TakeFrame.calls k2 ((rdOf ByteArray.empty y230 x51_2).extract 0 (a2 : Int).toNat) t240 t241 t242 _ A45.out).mono ?_); rintro e w98 ⟨rfl, hb⟩; refine ⟨_, rfl, ?_⟩; have n0_ := Aside0.mk (Kd.R_below (by (with_reducible repeat (first | apply Kd.R_alloc | apply Kd.R_drewN | apply Kd.R_drew)); exact HO_49.out) hb); have n1_ := Aside0.mk (below_step (by repeat (first | (with_reducible first | exact HB.out | apply below_alloc | apply pw_below_drewN | apply below_drew1) | exact HB.out)) hb); clear HO_49; clear HB; have HO_49 := n0_; have HB := n1_; clear n0_ n1_; (try clear hb); (try clear hb2); (try clear hk); (try clear hi)) | (go_at_call 19; (with_reducible refine (pack_Text.calls k2 a1 t246 _ A78.out).mono ?_); rintro e w99 ⟨rfl, hb⟩; have n0_ := Aside0.mk (Kd.R_below (by (with_reducible repeat (first | apply Kd.R_alloc | apply Kd.R_drewN | apply Kd.R_drew)); exact HO_49.out) hb); have n1_ := Aside0.mk (below_step (by repeat (first | (with_reducible first | exact HB.out | apply below_alloc | apply pw_below_drewN | apply below_drew1) | exact HB.out)) hb); clear HO_49; clear HB; have HO_49 := n0_; have HB := n1_; clear n0_ n1_; (try clear hb); (try clear hb2); (try clear hk); (try clear hi)) | (go_at_call 17; (with_reducible refine (pack_Number.calls k2 a0 t248 _ A95.out).mono ?_); rintro e w100 ⟨rfl, hb⟩; have n0_ := Aside0.mk (Kd.R_below (by (with_reducible repeat (first | apply Kd.R_alloc | apply Kd.R_drewN | apply Kd.R_drew)); exact HO_49.out) hb); have n1_ := Aside0.mk (below_step (by repeat (first | (with_reducible first | exact HB.out | apply below_alloc | apply pw_below_drewN | apply below_drew1) | exact HB.out)) hb); clear HO_49; clear HB; have HO_49 := n0_; have HB := n1_; clear n0_ n1_; (try clear hb); (try clear hb2); (try clear hk); (try clear hi)))
                                go_roundg k2
                                case measure => have := HJ3.out; have := HK2.out; omega
                                case rel => exact ⟨(wrap64 (x51_2 + 1)), (by first | rfl | (simp; done) | (simp [*]; done)), H', ⟨by have := HJ3.out; have := HK2.out; omega⟩, ⟨by (with_reducible repeat (first | apply Kd.R_alloc | apply Kd.R_drewN | apply Kd.R_drew)); exact HO_49.out⟩, ⟨by repeat (first | (with_reducible first | exact HB.out | apply below_alloc | apply pw_below_drewN | apply below_drew1) | exact HB.out)⟩⟩
                              · rw [if_neg c97] at H
                                have c97b0 : (t236 == 3) = false := beq_eq_false_iff_ne.mpr c97
                                have c97b1 : (t236 != 3) = true := bne_iff_ne.mpr c97
                                obtain rfl := Option.some.inj H
                                have p233 : 0 ≤ (x51_2 : Int) := of_decide_eq_true (by first | (with_reducible assumption) | assumption)
                                have q233 : x51_2 < (y230.length : Int) := of_decide_eq_true (by first | (with_reducible assumption) | assumption)
                                obtain ⟨ad233, e233, hx233_0⟩ := Kd.at_string (Kd.R_reads' HO_49.out).2.2 x51_2 p233 q233
                                cases e233
                                replace p233 := eq_true p233
                                replace q233 := eq_true q233
                                go_wp2_with (first | ((with_reducible refine gate_callee (f := 23) rfl ?_); refine goesL_ (some 63) rfl rfl Try.func23 (by kernel_rfl) rfl #[.string ((rdOf ByteArray.empty y230 x51_2).extract 0 (a2 : Int).toNat)] rfl (by (try simp only [List.map_toArray, List.map_cons, List.map_nil]); first | done | rfl | (simp only [List.length_drop, List.length_take]; rfl)) ?_; (with_reducible refine (pack_TakeNumber.calls k2 ((rdOf ByteArray.empty y230 x51_2).extract 0 (a2 : Int).toNat) t234 t235 t236 _ A39.out).mono ?_); rintro e w' ⟨rfl, ⟨nd, rfl⟩⟩; refine ⟨_, rfl, ?_⟩) | ((with_reducible refine gate_callee (f := 21) rfl ?_); refine goesL_ (some 71) rfl rfl Try.func21 (by kernel_rfl) rfl #[.string ((rdOf ByteArray.empty y230 x51_2).extract 0 (a2 : Int).toNat)] rfl (by (try simp only [List.map_toArray, List.map_cons, List.map_nil]); first | done | rfl | (simp only [List.length_drop, List.length_take]; rfl)) ?_; (with_reducible refine (pack_TakeText.calls k2 ((rdOf ByteArray.empty y230 x51_2).extract 0 (a2 : Int).toNat) t237 t238 t239 _ A42.out).mono ?_); rintro e w' ⟨rfl, ⟨nd, rfl⟩⟩; refine ⟨_, rfl, ?_⟩) | ((with_reducible refine gate_callee (f := 27) rfl ?_); refine goesL_ (some 79) rfl rfl Try.func27 (by kernel_rfl) rfl #[.string ((rdOf ByteArray.empty y230 x51_2).extract 0 (a2 : Int).toNat)] rfl (by (try simp only [List.map_toArray, List.map_cons, List.map_nil]); first | done | rfl | (simp only [List.length_drop, List.length_take]; rfl)) ?_; (with_reducible refine (pack_TakeFrame.calls k2 ((rdOf ByteArray.empty y230 x51_2).extract 0 (a2 : Int).toNat) t240 t241 t242 _ A45.out).mono ?_); rintro e w101 ⟨rfl, hb⟩; refine ⟨_, rfl, ?_⟩; have n0_ := Aside0.mk (Kd.R_below (by (with_reducible repeat (first | apply Kd.R_alloc | apply Kd.R_drewN | apply Kd.R_drew)); exact HO_49.out) hb); have n1_ := Aside0.mk (below_step (by repeat (first | (with_reducible first | exact HB.out | apply below_alloc | apply pw_below_drewN | apply below_drew1) | exact HB.out)) hb); clear HO_49; clear HB; have HO_49 := n0_; have HB := n1_; clear n0_ n1_; (try clear hb); (try clear hb2); (try clear hk); (try clear hi)) | (go_at_call 19; (with_reducible refine (pack_Text.calls k2 a1 t246 _ A78.out).mono ?_); rintro e w102 ⟨rfl, hb⟩; have n0_ := Aside0.mk (Kd.R_below (by (with_reducible repeat (first | apply Kd.R_alloc | apply Kd.R_drewN | apply Kd.R_drew)); exact HO_49.out) hb); have n1_ := Aside0.mk (below_step (by repeat (first | (with_reducible first | exact HB.out | apply below_alloc | apply pw_below_drewN | apply below_drew1) | exact HB.out)) hb); clear HO_49; clear HB; have HO_49 := n0_; have HB := n1_; clear n0_ n1_; (try clear hb); (try clear hb2); (try clear hk); (try clear hi)) | (go_at_call 17; (with_reducible refine (pack_Number.calls k2 a0 t248 _ A95.out).mono ?_); rintro e w103 ⟨rfl, hb⟩; have n0_ := Aside0.mk (Kd.R_below (by (with_reducible repeat (first | apply Kd.R_alloc | apply Kd.R_drewN | apply Kd.R_drew)); exact HO_49.out) hb); have n1_ := Aside0.mk (below_step (by repeat (first | (with_reducible first | exact HB.out | apply below_alloc | apply pw_below_drewN | apply below_drew1) | exact HB.out)) hb); clear HO_49; clear HB; have HO_49 := n0_; have HB := n1_; clear n0_ n1_; (try clear hb); (try clear hb2); (try clear hk); (try clear hi)))
                                go_ret
                                exact ⟨by first | rfl | (simp [errW_none, errW_some] <;> rfl) | (simp [*, errW_none, errW_some] <;> rfl), by repeat (first | (with_reducible first | exact HB.out | apply below_alloc | apply pw_below_drewN | apply below_drew1) | exact HB.out)⟩
                            · rw [if_neg c96] at H
                              have c96b0 : ((rdOf ByteArray.empty y230 x51_2).toList == t248.toList) = false := beq_eq_false_iff_ne.mpr c96
                              have c96b1 : ((rdOf ByteArray.empty y230 x51_2).toList != t248.toList) = true := bne_iff_ne.mpr c96
                              have H' := Aside0.mk H
                              clear H
                              have p233 : 0 ≤ (x51_2 : Int) := of_decide_eq_true (by first | (with_reducible assumption) | assumption)
                              have q233 : x51_2 < (y230.length : Int) := of_decide_eq_true (by first | (with_reducible assumption) | assumption)
                              obtain ⟨ad233, e233, hx233_0⟩ := Kd.at_string (Kd.R_reads' HO_49.out).2.2 x51_2 p233 q233
                              cases e233
                              replace p233 := eq_true p233
                              replace q233 := eq_true q233
                              go_wp2_with (first | ((with_reducible refine gate_callee (f := 23) rfl ?_); refine goesL_ (some 63) rfl rfl Try.func23 (by kernel_rfl) rfl #[.string ((rdOf ByteArray.empty y230 x51_2).extract 0 (a2 : Int).toNat)] rfl (by (try simp only [List.map_toArray, List.map_cons, List.map_nil]); first | done | rfl | (simp only [List.length_drop, List.length_take]; rfl)) ?_; (with_reducible refine (pack_TakeNumber.calls k2 ((rdOf ByteArray.empty y230 x51_2).extract 0 (a2 : Int).toNat) t234 t235 t236 _ A39.out).mono ?_); rintro e w' ⟨rfl, ⟨nd, rfl⟩⟩; refine ⟨_, rfl, ?_⟩) | ((with_reducible refine gate_callee (f := 21) rfl ?_); refine goesL_ (some 71) rfl rfl Try.func21 (by kernel_rfl) rfl #[.string ((rdOf ByteArray.empty y230 x51_2).extract 0 (a2 : Int).toNat)] rfl (by (try simp only [List.map_toArray, List.map_cons, List.map_nil]); first | done | rfl | (simp only [List.length_drop, List.length_take]; rfl)) ?_; (with_reducible refine (pack_TakeText.calls k2 ((rdOf ByteArray.empty y230 x51_2).extract 0 (a2 : Int).toNat) t237 t238 t239 _ A42.out).mono ?_); rintro e w' ⟨rfl, ⟨nd, rfl⟩⟩; refine ⟨_, rfl, ?_⟩) | ((with_reducible refine gate_callee (f := 27) rfl ?_); refine goesL_ (some 79) rfl rfl Try.func27 (by kernel_rfl) rfl #[.string ((rdOf ByteArray.empty y230 x51_2).extract 0 (a2 : Int).toNat)] rfl (by (try simp only [List.map_toArray, List.map_cons, List.map_nil]); first | done | rfl | (simp only [List.length_drop, List.length_take]; rfl)) ?_; (with_reducible refine (pack_TakeFrame.calls k2 ((rdOf ByteArray.empty y230 x51_2).extract 0 (a2 : Int).toNat) t240 t241 t242 _ A45.out).mono ?_); rintro e w104 ⟨rfl, hb⟩; refine ⟨_, rfl, ?_⟩; have n0_ := Aside0.mk (Kd.R_below (by (with_reducible repeat (first | apply Kd.R_alloc | apply Kd.R_drewN | apply Kd.R_drew)); exact HO_49.out) hb); have n1_ := Aside0.mk (below_step (by repeat (first | (with_reducible first | exact HB.out | apply below_alloc | apply pw_below_drewN | apply below_drew1) | exact HB.out)) hb); clear HO_49; clear HB; have HO_49 := n0_; have HB := n1_; clear n0_ n1_; (try clear hb); (try clear hb2); (try clear hk); (try clear hi)) | (go_at_call 19; (with_reducible refine (pack_Text.calls k2 a1 t246 _ A78.out).mono ?_); rintro e w105 ⟨rfl, hb⟩; have n0_ := Aside0.mk (Kd.R_below (by (with_reducible repeat (first | apply Kd.R_alloc | apply Kd.R_drewN | apply Kd.R_drew)); exact HO_49.out) hb); have n1_ := Aside0.mk (below_step (by repeat (first | (with_reducible first | exact HB.out | apply below_alloc | apply pw_below_drewN | apply below_drew1) | exact HB.out)) hb); clear HO_49; clear HB; have HO_49 := n0_; have HB := n1_; clear n0_ n1_; (try clear hb); (try clear hb2); (try clear hk); (try clear hi)) | (go_at_call 17; (with_reducible refine (pack_Number.calls k2 a0 t248 _ A95.out).mono ?_); rintro e w106 ⟨rfl, hb⟩; have n0_ := Aside0.mk (Kd.R_below (by (with_reducible repeat (first | apply Kd.R_alloc | apply Kd.R_drewN | apply Kd.R_drew)); exact HO_49.out) hb); have n1_ := Aside0.mk (below_step (by repeat (first | (with_reducible first | exact HB.out | apply below_alloc | apply pw_below_drewN | apply below_drew1) | exact HB.out)) hb); clear HO_49; clear HB; have HO_49 := n0_; have HB := n1_; clear n0_ n1_; (try clear hb); (try clear hb2); (try clear hk); (try clear hi)))
                              go_roundg k2
                              case measure => have := HJ3.out; have := HK2.out; omega
                              case rel => exact ⟨(wrap64 (x51_2 + 1)), (by first | rfl | (simp; done) | (simp [*]; done)), H', ⟨by have := HJ3.out; have := HK2.out; omega⟩, ⟨by (with_reducible repeat (first | apply Kd.R_alloc | apply Kd.R_drewN | apply Kd.R_drew)); exact HO_49.out⟩, ⟨by repeat (first | (with_reducible first | exact HB.out | apply below_alloc | apply pw_below_drewN | apply below_drew1) | exact HB.out)⟩⟩
                      · rw [if_neg c38] at H
                        exact absurd H (by simp)
                    · rw [if_neg c37] at H
                      exact absurd H (by simp)
                · rw [if_neg c35] at H
                  exact absurd H (by simp)
              · rw [if_neg c34] at H
                exact absurd H (by simp)
            · rw [if_neg c33] at H
              have c33b0 : decide (x51_2 < (y230.length : Int)) = false := decide_eq_false c33
              clear c33
              obtain rfl := Option.some.inj H
              go_wp2
              go_ret
              exact ⟨by first | rfl | (simp [errW_none, errW_some] <;> rfl) | (simp [*, errW_none, errW_some] <;> rfl), by repeat (first | (with_reducible first | exact HB.out | apply below_alloc | apply pw_below_drewN | apply below_drew1) | exact HB.out)⟩

/-- THE ONE PURE STATEMENT of gafferlaw01_PackShort: yours. -/
def gafferlaw01_PackShort.Pure : Prop := ∀ (a0 : Int) (a1 : ByteArray) (a2 : Int), (Lit.int .u64 a0).wf = true → a1.size ≤ 140737488351232 → (Lit.int .i64 a2).wf = true → ∃ k, gafferlaw01_PackShort.f k a0 a1 a2 = some true
theorem gafferlaw01_PackShort.walk (P : gafferlaw01_PackShort.Pure) (a0 : Int) (a1 : ByteArray) (a2 : Int) (w : World) (w0 : (Lit.int .u64 a0).wf = true) (w1 : a1.size ≤ 140737488351232) (w2 : (Lit.int .i64 a2).wf = true) :
    Calls Try.prog 12 #[.int .u64 a0, .string a1, .int .i64 a2] w fun e w' => e = .returned (.bool true) ∧ Below w.heap.size w w' := by
  obtain ⟨k, h⟩ := P a0 a1 a2 w0 w1 w2
  refine (gafferlaw01_PackShort.calls k a0 a1 a2 true w h).mono ?_
  rintro e w' ⟨rfl, hd⟩
  exact ⟨rfl, hd⟩

end Go.Proofs.Ytkmkbhiipieolaa.PA
