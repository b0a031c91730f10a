-- Written for this claim by a program of this session. Lean checks it.
import Derived.Test.YtkmkbhiipieolaaPAx0
import Derived.Test.YtkmkbhiipieolaaPAx1
import Derived.Test.YtkmkbhiipieolaaPAx2
import Derived.Test.YtkmkbhiipieolaaPAx3
import Derived.Test.YtkmkbhiipieolaaPAx4
namespace Go.Proofs.Ytkmkbhiipieolaa.PA
open Go.RowKit Go.Proofs.YtkmkbhiipieolaaW.PrintWords Go.Proofs.YtkmkbhiipieolaaW.PrintLast Go.Proofs.YtkmkbhiipieolaaW.PrintMore Go.Proofs.Ytkmkbhiipieolaa.Sh Go.Proofs.Ytkmkbhiipieolaa.Op
attribute [local go_sem] max2_int min2_int max_two min_two max_three min_three max_four min_four   -- for this text's walks alone
set_option linter.unusedVariables false
set_option linter.unusedSimpArgs false

/-! ### gafferlaw01_frames: function 29 -/
def gafferlaw01_frames.f (k : Nat)  : Option (Bool) := (pack_Frame.f k (⟨#[97]⟩ : ByteArray)).bind fun bt177 => (if bt177.1.size + 1 ≤ 9223372036854775807 then ((pack_TakeFrame.f k (bt177.1 ++ (⟨#[98]⟩ : ByteArray))).bind fun bt179 => (if (bt177.1.size : Int) = 7 then (if bt177.2 = 0 then (if bt179.1.toList = ([97] : List UInt8) then (if bt179.2.1.toList = ([98] : List UInt8) then (some (bt179.2.2 == 0)) else (some false)) else (some false)) else (some false)) else (some false))) else (none))
theorem gafferlaw01_frames.mono : ∀ k, LeO (gafferlaw01_frames.f k ) (gafferlaw01_frames.f (k + 1) ) := by
 intro  k
 unfold gafferlaw01_frames.f
 repeat' first
   | (with_reducible exact pack_Frame.mono _ _)
   | (with_reducible exact pack_TakeFrame.mono _ _)
   | (with_reducible exact LeO.refl _)
   | (with_reducible exact LeO.none _)
   | (with_reducible refine LeO.ite ?_ ?_)
   | (with_reducible refine LeO.bind ?_ (fun _ => ?_))
   | exact pack_Frame.mono _ _
   | exact pack_TakeFrame.mono _ _
   | exact LeO.none _
   | refine LeO.ite ?_ ?_
   | refine LeO.bind ?_ (fun _ => ?_)
set_option maxHeartbeats 80000000 in
set_option maxRecDepth 100000 in
theorem gafferlaw01_frames.calls (k : Nat)  (r : Bool) (w : World) (h : gafferlaw01_frames.f k  = some r) :
  Calls Try.prog 29 #[] w fun e w' => e = .returned (.bool r) ∧ Below w.heap.size w w' := by
 have HB := Aside0.mk (Below.refl w.heap.size w)
 have H : ((pack_Frame.f k (⟨#[97]⟩ : ByteArray)).bind fun bt177 => (if bt177.1.size + 1 ≤ 9223372036854775807 then ((pack_TakeFrame.f k (bt177.1 ++ (⟨#[98]⟩ : ByteArray))).bind fun bt179 => (if (bt177.1.size : Int) = 7 then (if bt177.2 = 0 then (if bt179.1.toList = ([97] : List UInt8) then (if bt179.2.1.toList = ([98] : List UInt8) then (some (bt179.2.2 == 0)) else (some false)) else (some false)) else (some false)) else (some false))) else (none))) = some r := h
 clear h
 replace H := Option.bind_eq_some_iff.mp H
 obtain ⟨⟨t177, t178⟩, A10, H⟩ := H
 replace H : (if t177.size + 1 ≤ 9223372036854775807 then ((pack_TakeFrame.f k (t177 ++ (⟨#[98]⟩ : ByteArray))).bind fun bt179 => (if (t177.size : Int) = 7 then (if t178 = 0 then (if bt179.1.toList = ([97] : List UInt8) then (if bt179.2.1.toList = ([98] : List UInt8) then (some (bt179.2.2 == 0)) else (some false)) else (some false)) else (some false)) else (some false))) else (none)) = some r := H
 have A1 := Aside0.mk A10
 clear A10
 by_cases c2 : t177.size + 1 ≤ 9223372036854775807
 ·rw [if_pos c2] at H
  have c2b0 := eq_true c2
  have c2b1 : decide (t177.size + 1 ≤ 9223372036854775807) = true := decide_eq_true c2
  try have c2b2 : (9223372036854775807 < t177.size + 1) = False := eq_false (Nat.not_lt.2 c2)
  clear c2
  replace H := Option.bind_eq_some_iff.mp H
  obtain ⟨⟨t179, t180, t181⟩, A30, H⟩ := H
  replace H : (if (t177.size : Int) = 7 then (if t178 = 0 then (if t179.toList = ([97] : List UInt8) then (if t180.toList = ([98] : List UInt8) then (some (t181 == 0)) else (some false)) else (some false)) else (some false)) else (some false)) = some r := H
  have A3 := Aside0.mk A30
  clear A30
  by_cases c4 : (t177.size : Int) = 7
  ·rw [if_pos c4] at H
   have c4b0 : ((t177.size : Int) == 7) = true := beq_iff_eq.mpr c4
   have c4b1 : ((t177.size : Int) != 7) = false := bne_eq_false_iff_eq.mpr c4
   clear c4
   by_cases c5 : t178 = 0
   ·rw [if_pos c5] at H
    have c5b0 : (t178 == 0) = true := beq_iff_eq.mpr c5
    have c5b1 : (t178 != 0) = false := bne_eq_false_iff_eq.mpr c5
    clear c5
    by_cases c6 : t179.toList = ([97] : List UInt8)
    ·rw [if_pos c6] at H
     have c6b0 : (t179.toList == ([97] : List UInt8)) = true := beq_iff_eq.mpr c6
     have c6b1 : (t179.toList != ([97] : List UInt8)) = false := bne_eq_false_iff_eq.mpr c6
     clear c6
     by_cases c7 : t180.toList = ([98] : List UInt8)
     ·rw [if_pos c7] at H
      have c7b0 : (t180.toList == ([98] : List UInt8)) = true := beq_iff_eq.mpr c7
      have c7b1 : (t180.toList != ([98] : List UInt8)) = false := bne_eq_false_iff_eq.mpr c7
      clear c7
      obtain rfl := Option.some.inj H
      go_enter Try.func29, Try.ntmps29
      go_wp2_with (first | ((with_reducible refine gate_callee (f := 25) rfl ?_); refine goesL_ (some 7) rfl rfl Try.func25 (by kernel_rfl) rfl #[.string (⟨#[97]⟩ : ByteArray)] rfl (ar_) ?_; (with_reducible refine (pack_Frame.calls k (⟨#[97]⟩ : ByteArray) t177 t178 _ A1.out).mono ?_); rintro e w8 ⟨rfl, hb⟩; refine ⟨_, rfl, ?_⟩; replace HB := Aside0.mk (below_step (bl_ HB) hb); (try clear hb); (try clear hb2); (try clear hk); (try clear hi)) | ((with_reducible refine gate_callee (f := 27) rfl ?_); refine goesL_ (some 13) rfl rfl Try.func27 (by kernel_rfl) rfl #[.string (t177 ++ (⟨#[98]⟩ : ByteArray))] rfl (ar_) ?_; (with_reducible refine (pack_TakeFrame.calls k (t177 ++ (⟨#[98]⟩ : ByteArray)) t179 t180 t181 _ A3.out).mono ?_); rintro e w9 ⟨rfl, hb⟩; refine ⟨_, rfl, ?_⟩; replace HB := Aside0.mk (below_step (bl_ HB) hb); (try clear hb); (try clear hb2); (try clear hk); (try clear hi)))
      go_ret
      exact ⟨by first | rfl | (simp; done) | (simp [*]; done), bl_ HB⟩
     ·rw [if_neg c7] at H
      have c7b0 : (t180.toList == ([98] : List UInt8)) = false := beq_eq_false_iff_ne.mpr c7
      have c7b1 : (t180.toList != ([98] : List UInt8)) = true := bne_iff_ne.mpr c7
      obtain rfl := Option.some.inj H
      go_enter Try.func29, Try.ntmps29
      go_wp2_with (first | ((with_reducible refine gate_callee (f := 25) rfl ?_); refine goesL_ (some 7) rfl rfl Try.func25 (by kernel_rfl) rfl #[.string (⟨#[97]⟩ : ByteArray)] rfl (ar_) ?_; (with_reducible refine (pack_Frame.calls k (⟨#[97]⟩ : ByteArray) t177 t178 _ A1.out).mono ?_); rintro e w10 ⟨rfl, hb⟩; refine ⟨_, rfl, ?_⟩; replace HB := Aside0.mk (below_step (bl_ HB) hb); (try clear hb); (try clear hb2); (try clear hk); (try clear hi)) | ((with_reducible refine gate_callee (f := 27) rfl ?_); refine goesL_ (some 13) rfl rfl Try.func27 (by kernel_rfl) rfl #[.string (t177 ++ (⟨#[98]⟩ : ByteArray))] rfl (ar_) ?_; (with_reducible refine (pack_TakeFrame.calls k (t177 ++ (⟨#[98]⟩ : ByteArray)) t179 t180 t181 _ A3.out).mono ?_); rintro e w11 ⟨rfl, hb⟩; refine ⟨_, rfl, ?_⟩; replace HB := Aside0.mk (below_step (bl_ HB) hb); (try clear hb); (try clear hb2); (try clear hk); (try clear hi)))
      go_ret
      exact ⟨by first | rfl | (simp; done) | (simp [*]; done), bl_ HB⟩
    ·rw [if_neg c6] at H
     have c6b0 : (t179.toList == ([97] : List UInt8)) = false := beq_eq_false_iff_ne.mpr c6
     have c6b1 : (t179.toList != ([97] : List UInt8)) = true := bne_iff_ne.mpr c6
     obtain rfl := Option.some.inj H
     go_enter Try.func29, Try.ntmps29
     go_wp2_with (first | ((with_reducible refine gate_callee (f := 25) rfl ?_); refine goesL_ (some 7) rfl rfl Try.func25 (by kernel_rfl) rfl #[.string (⟨#[97]⟩ : ByteArray)] rfl (ar_) ?_; (with_reducible refine (pack_Frame.calls k (⟨#[97]⟩ : ByteArray) t177 t178 _ A1.out).mono ?_); rintro e w12 ⟨rfl, hb⟩; refine ⟨_, rfl, ?_⟩; replace HB := Aside0.mk (below_step (bl_ HB) hb); (try clear hb); (try clear hb2); (try clear hk); (try clear hi)) | ((with_reducible refine gate_callee (f := 27) rfl ?_); refine goesL_ (some 13) rfl rfl Try.func27 (by kernel_rfl) rfl #[.string (t177 ++ (⟨#[98]⟩ : ByteArray))] rfl (ar_) ?_; (with_reducible refine (pack_TakeFrame.calls k (t177 ++ (⟨#[98]⟩ : ByteArray)) t179 t180 t181 _ A3.out).mono ?_); rintro e w13 ⟨rfl, hb⟩; refine ⟨_, rfl, ?_⟩; replace HB := Aside0.mk (below_step (bl_ HB) hb); (try clear hb); (try clear hb2); (try clear hk); (try clear hi)))
     go_ret
     exact ⟨by first | rfl | (simp; done) | (simp [*]; done), bl_ HB⟩
   ·rw [if_neg c5] at H
    have c5b0 : (t178 == 0) = false := beq_eq_false_iff_ne.mpr c5
    have c5b1 : (t178 != 0) = true := bne_iff_ne.mpr c5
    obtain rfl := Option.some.inj H
    go_enter Try.func29, Try.ntmps29
    go_wp2_with (first | ((with_reducible refine gate_callee (f := 25) rfl ?_); refine goesL_ (some 7) rfl rfl Try.func25 (by kernel_rfl) rfl #[.string (⟨#[97]⟩ : ByteArray)] rfl (ar_) ?_; (with_reducible refine (pack_Frame.calls k (⟨#[97]⟩ : ByteArray) t177 t178 _ A1.out).mono ?_); rintro e w14 ⟨rfl, hb⟩; refine ⟨_, rfl, ?_⟩; replace HB := Aside0.mk (below_step (bl_ HB) hb); (try clear hb); (try clear hb2); (try clear hk); (try clear hi)) | ((with_reducible refine gate_callee (f := 27) rfl ?_); refine goesL_ (some 13) rfl rfl Try.func27 (by kernel_rfl) rfl #[.string (t177 ++ (⟨#[98]⟩ : ByteArray))] rfl (ar_) ?_; (with_reducible refine (pack_TakeFrame.calls k (t177 ++ (⟨#[98]⟩ : ByteArray)) t179 t180 t181 _ A3.out).mono ?_); rintro e w15 ⟨rfl, hb⟩; refine ⟨_, rfl, ?_⟩; replace HB := Aside0.mk (below_step (bl_ HB) hb); (try clear hb); (try clear hb2); (try clear hk); (try clear hi)))
    go_ret
    exact ⟨by first | rfl | (simp; done) | (simp [*]; done), bl_ HB⟩
  ·rw [if_neg c4] at H
   have c4b0 : ((t177.size : Int) == 7) = false := beq_eq_false_iff_ne.mpr c4
   have c4b1 : ((t177.size : Int) != 7) = true := bne_iff_ne.mpr c4
   obtain rfl := Option.some.inj H
   go_enter Try.func29, Try.ntmps29
   go_wp2_with (first | ((with_reducible refine gate_callee (f := 25) rfl ?_); refine goesL_ (some 7) rfl rfl Try.func25 (by kernel_rfl) rfl #[.string (⟨#[97]⟩ : ByteArray)] rfl (ar_) ?_; (with_reducible refine (pack_Frame.calls k (⟨#[97]⟩ : ByteArray) t177 t178 _ A1.out).mono ?_); rintro e w16 ⟨rfl, hb⟩; refine ⟨_, rfl, ?_⟩; replace HB := Aside0.mk (below_step (bl_ HB) hb); (try clear hb); (try clear hb2); (try clear hk); (try clear hi)) | ((with_reducible refine gate_callee (f := 27) rfl ?_); refine goesL_ (some 13) rfl rfl Try.func27 (by kernel_rfl) rfl #[.string (t177 ++ (⟨#[98]⟩ : ByteArray))] rfl (ar_) ?_; (with_reducible refine (pack_TakeFrame.calls k (t177 ++ (⟨#[98]⟩ : ByteArray)) t179 t180 t181 _ A3.out).mono ?_); rintro e w17 ⟨rfl, hb⟩; refine ⟨_, rfl, ?_⟩; replace HB := Aside0.mk (below_step (bl_ HB) hb); (try clear hb); (try clear hb2); (try clear hk); (try clear hi)))
   go_ret
   exact ⟨by first | rfl | (simp; done) | (simp [*]; done), bl_ HB⟩
 ·rw [if_neg c2] at H
  exact absurd H (by simp)

/-! ### gafferlaw01_PackFrames: function 8 -/
def gafferlaw01_PackFrames.f (k : Nat) (a0 : ByteArray) (a1 : ByteArray) : Option (Bool) := (pack_Frame.f k a0).bind fun bt182 => ((gafferref01_Frame.f k a0).bind fun bt184 => ((pack_TakeFrame.f k a1).bind fun bt186 => ((gafferref01_TakeFrame.f k a1).bind fun bt189 => ((gafferlaw01_frames.f k).bind fun t192 => (if t192 = true then (if bt182.1.toList = bt184.1.toList then (if bt182.2 = bt184.2 then (if bt186.1.toList = bt189.1.toList then (if bt186.2.1.toList = bt189.2.1.toList then (some (bt186.2.2 == bt189.2.2)) else (some false)) else (some false)) else (some false)) else (some false)) else (some false))))))
theorem gafferlaw01_PackFrames.mono : ∀ a0 a1 k, LeO (gafferlaw01_PackFrames.f k a0 a1) (gafferlaw01_PackFrames.f (k + 1) a0 a1) := by
 intro a0 a1 k
 unfold gafferlaw01_PackFrames.f
 repeat' first
   | (with_reducible exact gafferlaw01_frames.mono _)
   | (with_reducible exact gafferref01_Frame.mono _ _)
   | (with_reducible exact gafferref01_TakeFrame.mono _ _)
   | (with_reducible exact pack_Frame.mono _ _)
   | (with_reducible exact pack_TakeFrame.mono _ _)
   | (with_reducible exact LeO.refl _)
   | (with_reducible exact LeO.none _)
   | (with_reducible refine LeO.ite ?_ ?_)
   | (with_reducible refine LeO.bind ?_ (fun _ => ?_))
   | exact gafferlaw01_frames.mono _
   | exact gafferref01_Frame.mono _ _
   | exact gafferref01_TakeFrame.mono _ _
   | exact pack_Frame.mono _ _
   | exact pack_TakeFrame.mono _ _
   | exact LeO.none _
   | refine LeO.ite ?_ ?_
   | refine LeO.bind ?_ (fun _ => ?_)
set_option maxHeartbeats 80000000 in
set_option maxRecDepth 100000 in
theorem gafferlaw01_PackFrames.calls (k : Nat) (a0 : ByteArray) (a1 : ByteArray) (r : Bool) (w : World) (h : gafferlaw01_PackFrames.f k a0 a1 = some r) (hr : r = true) :
  Calls Try.prog 8 #[.string a0, .string a1] w fun e w' => e = .returned (.bool r) ∧ Below w.heap.size w w' := by
 have HB := Aside0.mk (Below.refl w.heap.size w)
 have H : ((pack_Frame.f k a0).bind fun bt182 => ((gafferref01_Frame.f k a0).bind fun bt184 => ((pack_TakeFrame.f k a1).bind fun bt186 => ((gafferref01_TakeFrame.f k a1).bind fun bt189 => ((gafferlaw01_frames.f k).bind fun t192 => (if t192 = true then (if bt182.1.toList = bt184.1.toList then (if bt182.2 = bt184.2 then (if bt186.1.toList = bt189.1.toList then (if bt186.2.1.toList = bt189.2.1.toList then (some (bt186.2.2 == bt189.2.2)) else (some false)) else (some false)) else (some false)) else (some false)) else (some false))))))) = some r := h
 clear h
 replace H := Option.bind_eq_some_iff.mp H
 obtain ⟨⟨t182, t183⟩, A30, H⟩ := H
 replace H : ((gafferref01_Frame.f k a0).bind fun bt184 => ((pack_TakeFrame.f k a1).bind fun bt186 => ((gafferref01_TakeFrame.f k a1).bind fun bt189 => ((gafferlaw01_frames.f k).bind fun t192 => (if t192 = true then (if t182.toList = bt184.1.toList then (if t183 = bt184.2 then (if bt186.1.toList = bt189.1.toList then (if bt186.2.1.toList = bt189.2.1.toList then (some (bt186.2.2 == bt189.2.2)) else (some false)) else (some false)) else (some false)) else (some false)) else (some false)))))) = some r := H
 have A3 := Aside0.mk A30
 clear A30
 replace H := Option.bind_eq_some_iff.mp H
 obtain ⟨⟨t184, t185⟩, A40, H⟩ := H
 replace H : ((pack_TakeFrame.f k a1).bind fun bt186 => ((gafferref01_TakeFrame.f k a1).bind fun bt189 => ((gafferlaw01_frames.f k).bind fun t192 => (if t192 = true then (if t182.toList = t184.toList then (if t183 = t185 then (if bt186.1.toList = bt189.1.toList then (if bt186.2.1.toList = bt189.2.1.toList then (some (bt186.2.2 == bt189.2.2)) else (some false)) else (some false)) else (some false)) else (some false)) else (some false))))) = some r := H
 have A4 := Aside0.mk A40
 clear A40
 replace H := Option.bind_eq_some_iff.mp H
 obtain ⟨⟨t186, t187, t188⟩, A50, H⟩ := H
 replace H : ((gafferref01_TakeFrame.f k a1).bind fun bt189 => ((gafferlaw01_frames.f k).bind fun t192 => (if t192 = true then (if t182.toList = t184.toList then (if t183 = t185 then (if t186.toList = bt189.1.toList then (if t187.toList = bt189.2.1.toList then (some (t188 == bt189.2.2)) else (some false)) else (some false)) else (some false)) else (some false)) else (some false)))) = some r := H
 have A5 := Aside0.mk A50
 clear A50
 replace H := Option.bind_eq_some_iff.mp H
 obtain ⟨⟨t189, t190, t191⟩, A60, H⟩ := H
 replace H : ((gafferlaw01_frames.f k).bind fun t192 => (if t192 = true then (if t182.toList = t184.toList then (if t183 = t185 then (if t186.toList = t189.toList then (if t187.toList = t190.toList then (some (t188 == t191)) else (some false)) else (some false)) else (some false)) else (some false)) else (some false))) = some r := H
 have A6 := Aside0.mk A60
 clear A60
 replace H := Option.bind_eq_some_iff.mp H
 obtain ⟨t192, A70, H⟩ := H
 replace H : (if t192 = true then (if t182.toList = t184.toList then (if t183 = t185 then (if t186.toList = t189.toList then (if t187.toList = t190.toList then (some (t188 == t191)) else (some false)) else (some false)) else (some false)) else (some false)) else (some false)) = some r := H
 have A7 := Aside0.mk A70
 clear A70
 by_cases c8 : t192 = true
 ·subst c8
  have H1 : (if t182.toList = t184.toList then (if t183 = t185 then (if t186.toList = t189.toList then (if t187.toList = t190.toList then (some (t188 == t191)) else (some false)) else (some false)) else (some false)) else (some false)) = some r := by rw [if_pos rfl] at H; exact H
  clear H
  have H := H1
  clear H1
  by_cases c9 : t182.toList = t184.toList
  ·rw [if_pos c9] at H
   have c9b0 : (t182.toList == t184.toList) = true := beq_iff_eq.mpr c9
   have c9b1 : (t182.toList != t184.toList) = false := bne_eq_false_iff_eq.mpr c9
   clear c9
   by_cases c10 : t183 = t185
   ·rw [if_pos c10] at H
    have c10b0 : (t183 == t185) = true := beq_iff_eq.mpr c10
    have c10b1 : (t183 != t185) = false := bne_eq_false_iff_eq.mpr c10
    clear c10
    by_cases c11 : t186.toList = t189.toList
    ·rw [if_pos c11] at H
     have c11b0 : (t186.toList == t189.toList) = true := beq_iff_eq.mpr c11
     have c11b1 : (t186.toList != t189.toList) = false := bne_eq_false_iff_eq.mpr c11
     clear c11
     by_cases c12 : t187.toList = t190.toList
     ·rw [if_pos c12] at H
      have c12b0 : (t187.toList == t190.toList) = true := beq_iff_eq.mpr c12
      have c12b1 : (t187.toList != t190.toList) = false := bne_eq_false_iff_eq.mpr c12
      clear c12
      obtain rfl := Option.some.inj H
      go_enter Try.func8, Try.ntmps8
      go_wp2_with (first | ((with_reducible refine gate_callee (f := 25) rfl ?_); refine goesL_ (some 17) rfl rfl Try.func25 (by kernel_rfl) rfl #[.string a0] rfl (ar_) ?_; (with_reducible refine (pack_Frame.calls k a0 t182 t183 _ A3.out).mono ?_); rintro e w13 ⟨rfl, hb⟩; refine ⟨_, rfl, ?_⟩; replace HB := Aside0.mk (below_step (bl_ HB) hb); (try clear hb); (try clear hb2); (try clear hk); (try clear hi)) | ((with_reducible refine gate_callee (f := 26) rfl ?_); refine goesL_ (some 22) rfl rfl Try.func26 (by kernel_rfl) rfl #[.string a0] rfl (ar_) ?_; (with_reducible refine (gafferref01_Frame.calls k a0 t184 t185 _ A4.out).mono ?_); rintro e w14 ⟨rfl, hb⟩; refine ⟨_, rfl, ?_⟩; replace HB := Aside0.mk (below_step (bl_ HB) hb); (try clear hb); (try clear hb2); (try clear hk); (try clear hi)) | ((with_reducible refine gate_callee (f := 27) rfl ?_); refine goesL_ (some 27) rfl rfl Try.func27 (by kernel_rfl) rfl #[.string a1] rfl (ar_) ?_; (with_reducible refine (pack_TakeFrame.calls k a1 t186 t187 t188 _ A5.out).mono ?_); rintro e w15 ⟨rfl, hb⟩; refine ⟨_, rfl, ?_⟩; replace HB := Aside0.mk (below_step (bl_ HB) hb); (try clear hb); (try clear hb2); (try clear hk); (try clear hi)) | ((with_reducible refine gate_callee (f := 28) rfl ?_); refine goesL_ (some 33) rfl rfl Try.func28 (by kernel_rfl) rfl #[.string a1] rfl (ar_) ?_; (with_reducible refine (gafferref01_TakeFrame.calls k a1 t189 t190 t191 _ A6.out).mono ?_); rintro e w16 ⟨rfl, hb⟩; refine ⟨_, rfl, ?_⟩; replace HB := Aside0.mk (below_step (bl_ HB) hb); (try clear hb); (try clear hb2); (try clear hk); (try clear hi)) | ((with_reducible refine gate_callee (f := 29) rfl ?_); refine goesL_ (some 37) rfl rfl Try.func29 (by kernel_rfl) rfl #[] rfl (ar_) ?_; (with_reducible refine (gafferlaw01_frames.calls k  true _ A7.out).mono ?_); rintro e w17 ⟨rfl, hb⟩; refine ⟨_, rfl, ?_⟩; replace HB := Aside0.mk (below_step (bl_ HB) hb); (try clear hb); (try clear hb2); (try clear hk); (try clear hi)))
      go_ret
      exact ⟨by first | rfl | (simp; done) | (simp [*]; done), bl_ HB⟩
     ·rw [if_neg c12] at H
      have c12b0 : (t187.toList == t190.toList) = false := beq_eq_false_iff_ne.mpr c12
      have c12b1 : (t187.toList != t190.toList) = true := bne_iff_ne.mpr c12
      exact absurd (H.trans (congrArg some hr)) (by simp)
    ·rw [if_neg c11] at H
     have c11b0 : (t186.toList == t189.toList) = false := beq_eq_false_iff_ne.mpr c11
     have c11b1 : (t186.toList != t189.toList) = true := bne_iff_ne.mpr c11
     exact absurd (H.trans (congrArg some hr)) (by simp)
   ·rw [if_neg c10] at H
    have c10b0 : (t183 == t185) = false := beq_eq_false_iff_ne.mpr c10
    have c10b1 : (t183 != t185) = true := bne_iff_ne.mpr c10
    exact absurd (H.trans (congrArg some hr)) (by simp)
  ·rw [if_neg c9] at H
   have c9b0 : (t182.toList == t184.toList) = false := beq_eq_false_iff_ne.mpr c9
   have c9b1 : (t182.toList != t184.toList) = true := bne_iff_ne.mpr c9
   exact absurd (H.trans (congrArg some hr)) (by simp)
 ·replace c8 := Bool.eq_false_iff.mpr c8
  subst c8
  have H1 : (some false) = some r := by rw [if_neg (show ¬ (false = true) by decide)] at H; exact H
  clear H
  have H := H1
  clear H1
  exact absurd (H.trans (congrArg some hr)) (by simp)

/-- THE ONE PURE STATEMENT of gafferlaw01_PackFrames: yours. -/
def gafferlaw01_PackFrames.Pure : Prop := ∀ (a0 : ByteArray) (a1 : ByteArray), a0.size ≤ 140737488351232 → a1.size ≤ 140737488351232 → ∃ k, gafferlaw01_PackFrames.f k a0 a1 = some true
theorem gafferlaw01_PackFrames.walk (P : gafferlaw01_PackFrames.Pure) (a0 : ByteArray) (a1 : ByteArray) (w : World) (w0 : a0.size ≤ 140737488351232) (w1 : a1.size ≤ 140737488351232) :
  Calls Try.prog 8 #[.string a0, .string a1] w fun e w' => e = .returned (.bool true) ∧ Below w.heap.size w w' := by
 obtain ⟨k, h⟩ := P a0 a1 w0 w1
 refine (gafferlaw01_PackFrames.calls k a0 a1 true w h rfl).mono ?_
 rintro e w' ⟨rfl, hd⟩
 exact ⟨rfl, hd⟩

/-! ### gafferlaw01_PackMany: function 10 -/
mutual
def gafferlaw01_PackMany.l0 : Nat → ByteArray → List ByteArray → List ByteArray → Int → Int → Option (Bool)
 | 0, _, _, _, _, _ => none
 | k + 1, x3, x4, x16, x17, x18 => if x18 < x17 then (if 0 ≤ x18 then (if x18 < (x16.length : Int) then ((pack_Frame.f k (rdOf ByteArray.empty x16 x18)).bind fun bt195 => (if bt195.2 = 0 then (if (x3.size : Int) < 1000000 then (if x3.size + bt195.1.size ≤ 9223372036854775807 then (if x4.length < 8796093022208 then (gafferlaw01_PackMany.l0 k (x3 ++ bt195.1) (x4 ++ [rdOf ByteArray.empty x16 x18]) x16 x17 (wrap64 (x18 + 1))) else (none)) else (none)) else (gafferlaw01_PackMany.l0 k x3 x4 x16 x17 (wrap64 (x18 + 1)))) else (gafferlaw01_PackMany.l0 k x3 x4 x16 x17 (wrap64 (x18 + 1))))) else (none)) else (none)) else (gafferlaw01_PackMany.l1 k x3 x4 (x4.length : Int) 0)
def gafferlaw01_PackMany.l1 : Nat → ByteArray → List ByteArray → Int → Int → Option (Bool)
 | 0, _, _, _, _ => none
 | k + 1, x3, x42, x43, x44 => if x44 < x43 then (if 0 ≤ x44 then (if x44 < (x42.length : Int) then ((pack_TakeFrame.f k x3).bind fun bt201 => (if bt201.2.2 = 0 then (if bt201.1.toList = (rdOf ByteArray.empty x42 x44).toList then (gafferlaw01_PackMany.l1 k bt201.2.1 x42 x43 (wrap64 (x44 + 1))) else (some false)) else (some false))) else (none)) else (none)) else (some (x3.toList == ([] : List UInt8)))
end
def gafferlaw01_PackMany.f (k : Nat) (l0 : List ByteArray) : Option (Bool) := (gafferlaw01_frames.f k).bind fun t193 => (if t193 = true then (gafferlaw01_PackMany.l0 k (⟨#[]⟩ : ByteArray) ([] : List ByteArray) l0 (l0.length : Int) 0) else (some false))
theorem gafferlaw01_PackMany.mono_l : ∀ k, (∀ y0 y1 y2 y3 y4, LeO (gafferlaw01_PackMany.l0 k y0 y1 y2 y3 y4) (gafferlaw01_PackMany.l0 (k + 1) y0 y1 y2 y3 y4)) ∧ (∀ y0 y1 y2 y3, LeO (gafferlaw01_PackMany.l1 k y0 y1 y2 y3) (gafferlaw01_PackMany.l1 (k + 1) y0 y1 y2 y3))
 | 0 => ⟨fun _ _ _ _ _ r h => by simp [gafferlaw01_PackMany.l0] at h, fun _ _ _ _ r h => by simp [gafferlaw01_PackMany.l1] at h⟩
 | k + 1 => by
  obtain ⟨ih0, ih1⟩ := gafferlaw01_PackMany.mono_l k
  refine ⟨?_, ?_⟩
  ·intro y0 y1 y2 y3 y4
   unfold gafferlaw01_PackMany.l0
   repeat' first
   | (with_reducible exact ih0 _ _ _ _ _)
   | (with_reducible exact ih1 _ _ _ _)
   | (with_reducible exact gafferlaw01_frames.mono _)
   | (with_reducible exact pack_Frame.mono _ _)
   | (with_reducible exact pack_TakeFrame.mono _ _)
   | (with_reducible exact LeO.refl _)
   | (with_reducible exact LeO.none _)
   | (with_reducible refine LeO.ite ?_ ?_)
   | (with_reducible refine LeO.bind ?_ (fun _ => ?_))
   | exact ih0 _ _ _ _ _
   | exact ih1 _ _ _ _
   | exact gafferlaw01_frames.mono _
   | exact pack_Frame.mono _ _
   | exact pack_TakeFrame.mono _ _
   | exact LeO.none _
   | refine LeO.ite ?_ ?_
   | refine LeO.bind ?_ (fun _ => ?_)
  ·intro y0 y1 y2 y3
   unfold gafferlaw01_PackMany.l1
   repeat' first
   | (with_reducible exact ih0 _ _ _ _ _)
   | (with_reducible exact ih1 _ _ _ _)
   | (with_reducible exact gafferlaw01_frames.mono _)
   | (with_reducible exact pack_Frame.mono _ _)
   | (with_reducible exact pack_TakeFrame.mono _ _)
   | (with_reducible exact LeO.refl _)
   | (with_reducible exact LeO.none _)
   | (with_reducible refine LeO.ite ?_ ?_)
   | (with_reducible refine LeO.bind ?_ (fun _ => ?_))
   | exact ih0 _ _ _ _ _
   | exact ih1 _ _ _ _
   | exact gafferlaw01_frames.mono _
   | exact pack_Frame.mono _ _
   | exact pack_TakeFrame.mono _ _
   | exact LeO.none _
   | refine LeO.ite ?_ ?_
   | refine LeO.bind ?_ (fun _ => ?_)
theorem gafferlaw01_PackMany.mono : ∀ a0 k, LeO (gafferlaw01_PackMany.f k a0) (gafferlaw01_PackMany.f (k + 1) a0) := by
 intro a0 k
 obtain ⟨ih0, ih1⟩ := gafferlaw01_PackMany.mono_l k
 unfold gafferlaw01_PackMany.f
 repeat' first
   | (with_reducible exact ih0 _ _ _ _ _)
   | (with_reducible exact ih1 _ _ _ _)
   | (with_reducible exact gafferlaw01_frames.mono _)
   | (with_reducible exact pack_Frame.mono _ _)
   | (with_reducible exact pack_TakeFrame.mono _ _)
   | (with_reducible exact LeO.refl _)
   | (with_reducible exact LeO.none _)
   | (with_reducible refine LeO.ite ?_ ?_)
   | (with_reducible refine LeO.bind ?_ (fun _ => ?_))
   | exact ih0 _ _ _ _ _
   | exact ih1 _ _ _ _
   | exact gafferlaw01_frames.mono _
   | exact pack_Frame.mono _ _
   | exact pack_TakeFrame.mono _ _
   | exact LeO.none _
   | refine LeO.ite ?_ ?_
   | refine LeO.bind ?_ (fun _ => ?_)
set_option maxHeartbeats 80000000 in
set_option maxRecDepth 100000 in
theorem gafferlaw01_PackMany.calls (k : Nat) (A0 : Option Addr) (c0 : Nat) (l0 : List ByteArray) (r : Bool) (w : World) (hr0 : Kd.C Kd.string w A0 l0.length l0) (hc0 : l0.length ≤ c0) (h : gafferlaw01_PackMany.f k l0 = some r) (hr : r = true) :
  Calls Try.prog 10 #[.slice A0 l0.length c0] w fun e w' => e = .returned (.bool r) ∧ Below w.heap.size w w' := by
 have HR0 := Aside0.mk hr0
 have HC0 := Aside0.mk hc0
 clear hr0 hc0
 have HB := Aside0.mk (Below.refl w.heap.size w)
 have H : ((gafferlaw01_frames.f k).bind fun t193 => (if t193 = true then (gafferlaw01_PackMany.l0 k (⟨#[]⟩ : ByteArray) ([] : List ByteArray) l0 (l0.length : Int) 0) else (some false))) = some r := h
 clear h
 replace H := Option.bind_eq_some_iff.mp H
 obtain ⟨t193, A20, H⟩ := H
 replace H : (if t193 = true then (gafferlaw01_PackMany.l0 k (⟨#[]⟩ : ByteArray) ([] : List ByteArray) l0 (l0.length : Int) 0) else (some false)) = some r := H
 have A2 := Aside0.mk A20
 clear A20
 by_cases c3 : t193 = true
 ·subst c3
  have H1 : (gafferlaw01_PackMany.l0 k (⟨#[]⟩ : ByteArray) ([] : List ByteArray) l0 (l0.length : Int) 0) = some r := by rw [if_pos rfl] at H; exact H
  clear H
  have H := H1
  clear H1
  have H' := Aside0.mk H
  clear H
  go_enter Try.func10, Try.ntmps10
  go_wp2_with (first | ((with_reducible refine gate_callee (f := 29) rfl ?_); refine goesL_ (some 14) rfl rfl Try.func29 (by kernel_rfl) rfl #[] rfl (ar_) ?_; (with_reducible refine (gafferlaw01_frames.calls k  true _ A2.out).mono ?_); rintro e w4 ⟨rfl, hb⟩; refine ⟨_, rfl, ?_⟩; replace HB := Aside0.mk (below_step (bl_ HB) hb); (try clear hb); (try clear hb2); (try clear hk); (try clear hi)))
  go_loopg [3, 4, 18] k (fun kq v3 v4 v18 w' => ∃ (x3_1 : ByteArray) (x4_1 : List ByteArray) (x18_1 : Int), v3 = .string x3_1 ∧ v18 = .int .i64 x18_1 ∧ Aside0 (gafferlaw01_PackMany.l0 kq x3_1 x4_1 l0 (l0.length : Int) x18_1 = some r) ∧ Aside0 (kq ≤ k) ∧ Aside0 (Kd.R Kd.string 9 w' w.heap.size (fun _ => True) v4 x4_1) ∧ Aside0 (Below w.heap.size w w'))
  case atStart => exact ⟨((⟨#[]⟩ : ByteArray)), (([] : List ByteArray)), (0), (by first | rfl | (simp; done) | (simp [*]; done)), (by first | rfl | (simp; done) | (simp [*]; done)), H', ⟨Nat.le_refl _⟩, ⟨by first | exact Kd.R_nil _ _ _ _ _ | exact Kd.N_nil _ _ _ _ _ | exact Kd.V_nil _ _ _ _ _ | exact Kd.Q_nil _ _ _ _ _ | exact Kd.S_nil _ _ _ _ _⟩, ⟨bl_ HB⟩⟩
  case round =>
   clear H'
   try clear c1
   try clear c2
   try clear p2
   try clear c3
   obtain ⟨x3_1, x4_1, x18_1, rfl, rfl, HA, HK1, HO_4, HB⟩ := hrel
   cases gk with
   | zero => exact absurd HA.out (by simp [gafferlaw01_PackMany.l0])
   | succ k1 =>
    have H := HA.out
    clear HA
    simp only [gafferlaw01_PackMany.l0] at H
    by_cases c5 : x18_1 < (l0.length : Int)
    ·rw [if_pos c5] at H
     have c5b0 : decide (x18_1 < (l0.length : Int)) = true := decide_eq_true c5
     clear c5
     by_cases c6 : 0 ≤ x18_1
     ·rw [if_pos c6] at H
      have c6b0 : decide (0 ≤ x18_1) = true := decide_eq_true c6
      clear c6
      by_cases c7 : x18_1 < (l0.length : Int)
      ·rw [if_pos c7] at H
       have c7b0 : decide (x18_1 < (l0.length : Int)) = true := decide_eq_true c7
       clear c7
       replace H := Option.bind_eq_some_iff.mp H
       obtain ⟨⟨t195, t196⟩, A80, H⟩ := H
       replace H : (if t196 = 0 then (if (x3_1.size : Int) < 1000000 then (if x3_1.size + t195.size ≤ 9223372036854775807 then (if x4_1.length < 8796093022208 then (gafferlaw01_PackMany.l0 k1 (x3_1 ++ t195) (x4_1 ++ [rdOf ByteArray.empty l0 x18_1]) l0 (l0.length : Int) (wrap64 (x18_1 + 1))) else (none)) else (none)) else (gafferlaw01_PackMany.l0 k1 x3_1 x4_1 l0 (l0.length : Int) (wrap64 (x18_1 + 1)))) else (gafferlaw01_PackMany.l0 k1 x3_1 x4_1 l0 (l0.length : Int) (wrap64 (x18_1 + 1)))) = some r := H
       have A8 := Aside0.mk A80
       clear A80
       by_cases c9 : t196 = 0
       ·rw [if_pos c9] at H
        have c9b0 : (t196 == 0) = true := beq_iff_eq.mpr c9
        have c9b1 : (t196 != 0) = false := bne_eq_false_iff_eq.mpr c9
        clear c9
        by_cases c10 : (x3_1.size : Int) < 1000000
        ·rw [if_pos c10] at H
         have c10b0 : decide ((x3_1.size : Int) < 1000000) = true := decide_eq_true c10
         have c10b1 : decide (x3_1.size < 1000000) = true := decide_eq_true (by omega)
         clear c10
         by_cases c11 : x3_1.size + t195.size ≤ 9223372036854775807
         ·rw [if_pos c11] at H
          have c11b0 := eq_true c11
          have c11b1 : decide (x3_1.size + t195.size ≤ 9223372036854775807) = true := decide_eq_true c11
          try have c11b2 : (9223372036854775807 < x3_1.size + t195.size) = False := eq_false (Nat.not_lt.2 c11)
          clear c11
          by_cases c12 : x4_1.length < 8796093022208
          ·rw [if_pos c12] at H
           have LMc12 := Aside0.mk c12
           clear c12
           obtain ⟨y197, hy197⟩ : ∃ y_ : List ByteArray, y_ = (x4_1 ++ [rdOf ByteArray.empty l0 x18_1]) := ⟨_, rfl⟩
           replace H : (gafferlaw01_PackMany.l0 k1 (x3_1 ++ t195) y197 l0 (l0.length : Int) (wrap64 (x18_1 + 1))) = some r := by first | (rw [hy197]; with_reducible exact H) | (have H2_ := (Option.bind_some _ _).symm.trans H; rw [hy197]; with_reducible exact H2_) | (have H2_ := (Option.bind_some _ _).symm.trans H; with_reducible exact H2_) | with_reducible exact H | (rw [hy197]; exact H) | exact H
           have Ny197 := Aside0.mk hy197
           clear hy197
           have H' := Aside0.mk H
           clear H
           have p194 : 0 ≤ (x18_1 : Int) := of_decide_eq_true (by first | (with_reducible assumption) | assumption)
           have q194 : x18_1 < (l0.length : Int) := of_decide_eq_true (by first | (with_reducible assumption) | assumption)
           obtain ⟨ad194, e194, hx194_0⟩ := Kd.at_string HR0.out x18_1 p194 q194
           cases e194
           replace hx194_0 := (HB.out.cell (World.block_lt_of_cell? w _ hx194_0)).trans hx194_0
           replace p194 := eq_true p194
           replace q194 := eq_true q194
           go_wp2_with (first | ((with_reducible refine gate_callee (f := 25) rfl ?_); refine goesL_ (some 24) rfl rfl Try.func25 (by kernel_rfl) rfl #[.string (rdOf ByteArray.empty l0 x18_1)] rfl (ar_) ?_; (with_reducible refine (pack_Frame.calls k1 (rdOf ByteArray.empty l0 x18_1) t195 t196 _ A8.out).mono ?_); rintro e w13 ⟨rfl, hb⟩; refine ⟨_, rfl, ?_⟩; replace HO_4 := Aside0.mk (Kd.R_below (by (with_reducible repeat (first | apply Kd.R_alloc | apply Kd.R_drewN | apply Kd.R_drew)); exact HO_4.out) hb); replace HB := Aside0.mk (below_step (bl_ HB) hb); (try clear hb); (try clear hb2); (try clear hk); (try clear hi)) | ((with_reducible refine gate_builtin (b := .append) (xs := #[.tmp 37, .tmp 39]) rfl ?_); (try (refine gate_guard (by rfl) ?_; dsimp only)); at_builtin; refine Kd.R_append Kd.string (w0 := w) w.heap.size rfl (.tmp 37) (.tmp 39) 41 9 (.string ⟨#[]⟩) 16 rfl Try.underlying41 info9 rfl (by decide) (by omega) u4 x4_1 (rdOf ByteArray.empty l0 x18_1) [.string (rdOf ByteArray.empty l0 x18_1)] (fun _ => True) (fun _ => False) rfl rfl ?aP (fun _ hk => hk.elim) ?aF ?aO ?aB ?aS ?aL ?_; (case aP => exact rfl); (case aB => exact (bl_ HB)); (case aF => exact (fun _ _ => trivial)); (case aO => exact (by (with_reducible repeat (first | apply Kd.R_alloc | apply Kd.R_drewN | apply Kd.R_drew)); exact HO_4.out)); (case aS => exact (below_size (bl_ HB))); (case aL => have := LMc12.out; omega); intro v198 w14 ho hb hg hat; rw [← Ny197.out] at ho; replace HB := Aside0.mk (hb); have HO199 := Aside0.mk (ho); clear HO_4; clear ho hb hg hat))
           go_roundg k1
           case measure => have := HK1.out; omega
           case rel => exact ⟨(x3_1 ++ t195), (y197), (wrap64 (x18_1 + 1)), (by first | rfl | (simp; done) | (simp [*]; done)), (by first | rfl | (simp; done) | (simp [*]; done)), H', ⟨by have := HK1.out; omega⟩, ⟨by (with_reducible repeat (first | apply Kd.R_alloc | apply Kd.R_drewN | apply Kd.R_drew)); exact HO199.out⟩, ⟨bl_ HB⟩⟩
          ·rw [if_neg c12] at H
           exact absurd H (by simp)
         ·rw [if_neg c11] at H
          exact absurd H (by simp)
        ·rw [if_neg c10] at H
         have c10b0 : decide ((x3_1.size : Int) < 1000000) = false := decide_eq_false c10
         have c10b1 : decide (x3_1.size < 1000000) = false := decide_eq_false (by omega)
         clear c10
         have H' := Aside0.mk H
         clear H
         have p194 : 0 ≤ (x18_1 : Int) := of_decide_eq_true (by first | (with_reducible assumption) | assumption)
         have q194 : x18_1 < (l0.length : Int) := of_decide_eq_true (by first | (with_reducible assumption) | assumption)
         obtain ⟨ad194, e194, hx194_0⟩ := Kd.at_string HR0.out x18_1 p194 q194
         cases e194
         replace hx194_0 := (HB.out.cell (World.block_lt_of_cell? w _ hx194_0)).trans hx194_0
         replace p194 := eq_true p194
         replace q194 := eq_true q194
         go_wp2_with (first | ((with_reducible refine gate_callee (f := 25) rfl ?_); refine goesL_ (some 24) rfl rfl Try.func25 (by kernel_rfl) rfl #[.string (rdOf ByteArray.empty l0 x18_1)] rfl (ar_) ?_; (with_reducible refine (pack_Frame.calls k1 (rdOf ByteArray.empty l0 x18_1) t195 t196 _ A8.out).mono ?_); rintro e w15 ⟨rfl, hb⟩; refine ⟨_, rfl, ?_⟩; replace HO_4 := Aside0.mk (Kd.R_below (by (with_reducible repeat (first | apply Kd.R_alloc | apply Kd.R_drewN | apply Kd.R_drew)); exact HO_4.out) hb); replace HB := Aside0.mk (below_step (bl_ HB) hb); (try clear hb); (try clear hb2); (try clear hk); (try clear hi)))
         go_roundg k1
         case measure => have := HK1.out; omega
         case rel => exact ⟨(x3_1), (x4_1), (wrap64 (x18_1 + 1)), (by first | rfl | (simp; done) | (simp [*]; done)), (by first | rfl | (simp; done) | (simp [*]; done)), H', ⟨by have := HK1.out; omega⟩, ⟨by (with_reducible repeat (first | apply Kd.R_alloc | apply Kd.R_drewN | apply Kd.R_drew)); exact HO_4.out⟩, ⟨bl_ HB⟩⟩
       ·rw [if_neg c9] at H
        have c9b0 : (t196 == 0) = false := beq_eq_false_iff_ne.mpr c9
        have c9b1 : (t196 != 0) = true := bne_iff_ne.mpr c9
        have H' := Aside0.mk H
        clear H
        have p194 : 0 ≤ (x18_1 : Int) := of_decide_eq_true (by first | (with_reducible assumption) | assumption)
        have q194 : x18_1 < (l0.length : Int) := of_decide_eq_true (by first | (with_reducible assumption) | assumption)
        obtain ⟨ad194, e194, hx194_0⟩ := Kd.at_string HR0.out x18_1 p194 q194
        cases e194
        replace hx194_0 := (HB.out.cell (World.block_lt_of_cell? w _ hx194_0)).trans hx194_0
        replace p194 := eq_true p194
        replace q194 := eq_true q194
        go_wp2_with (first | ((with_reducible refine gate_callee (f := 25) rfl ?_); refine goesL_ (some 24) rfl rfl Try.func25 (by kernel_rfl) rfl #[.string (rdOf ByteArray.empty l0 x18_1)] rfl (ar_) ?_; (with_reducible refine (pack_Frame.calls k1 (rdOf ByteArray.empty l0 x18_1) t195 t196 _ A8.out).mono ?_); rintro e w16 ⟨rfl, hb⟩; refine ⟨_, rfl, ?_⟩; replace HO_4 := Aside0.mk (Kd.R_below (by (with_reducible repeat (first | apply Kd.R_alloc | apply Kd.R_drewN | apply Kd.R_drew)); exact HO_4.out) hb); replace HB := Aside0.mk (below_step (bl_ HB) hb); (try clear hb); (try clear hb2); (try clear hk); (try clear hi)))
        go_roundg k1
        case measure => have := HK1.out; omega
        case rel => exact ⟨(x3_1), (x4_1), (wrap64 (x18_1 + 1)), (by first | rfl | (simp; done) | (simp [*]; done)), (by first | rfl | (simp; done) | (simp [*]; done)), H', ⟨by have := HK1.out; omega⟩, ⟨by (with_reducible repeat (first | apply Kd.R_alloc | apply Kd.R_drewN | apply Kd.R_drew)); exact HO_4.out⟩, ⟨bl_ HB⟩⟩
      ·rw [if_neg c7] at H
       exact absurd H (by simp)
     ·rw [if_neg c6] at H
      exact absurd H (by simp)
    ·rw [if_neg c5] at H
     have c5b0 : decide (x18_1 < (l0.length : Int)) = false := decide_eq_false c5
     clear c5
     have H' := Aside0.mk H
     clear H
     obtain ⟨Ao17, co17, eo17⟩ := Kd.R_slice HO_4.out
     subst eo17
     go_wp2
     go_loopg [3, 44] k1 (fun kq v3 v44 w' => ∃ (x3_2 : ByteArray) (x44_2 : Int), v3 = .string x3_2 ∧ v44 = .int .i64 x44_2 ∧ Aside0 (gafferlaw01_PackMany.l1 kq x3_2 x4_1 (x4_1.length : Int) x44_2 = some r) ∧ Aside0 (kq ≤ k1) ∧ Aside0 (Kd.R Kd.string 9 w' w.heap.size (fun _ => True) (.slice Ao17 x4_1.length co17) x4_1) ∧ Aside0 (Below w.heap.size w w'))
     case atStart => exact ⟨(x3_1), (0), (by first | rfl | (simp; done) | (simp [*]; done)), (by first | rfl | (simp; done) | (simp [*]; done)), H', ⟨Nat.le_refl _⟩, ⟨by (with_reducible repeat (first | apply Kd.R_alloc | apply Kd.R_drewN | apply Kd.R_drew)); exact HO_4.out⟩, ⟨bl_ HB⟩⟩
     case round =>
      clear H'
      try clear c1
      try clear p1
      try clear q1
      try clear hx1
      try clear c2
      try clear p2
      try clear c3
      try clear c5
      try clear c5b0
      try clear c6
      try clear c6b0
      try clear p6
      try clear c7
      try clear c7b0
      try clear c9
      try clear c9b0
      try clear c9b1
      try clear c10
      try clear c10b0
      try clear c10b1
      try clear c11
      try clear c11b0
      try clear c11b1
      try clear c11b2
      try clear c12
      try clear hx194_0
      try clear p194
      try clear p2
      try clear q194
      obtain ⟨x3_2, x44_2, rfl, rfl, HA, HK2, HO_42, HB⟩ := hrel
      cases gk with
      | zero => exact absurd HA.out (by simp [gafferlaw01_PackMany.l1])
      | succ k2 =>
       have H := HA.out
       clear HA
       simp only [gafferlaw01_PackMany.l1] at H
       by_cases c18 : x44_2 < (x4_1.length : Int)
       ·rw [if_pos c18] at H
        have c18b0 : decide (x44_2 < (x4_1.length : Int)) = true := decide_eq_true c18
        clear c18
        by_cases c19 : 0 ≤ x44_2
        ·rw [if_pos c19] at H
         have c19b0 : decide (0 ≤ x44_2) = true := decide_eq_true c19
         clear c19
         by_cases c20 : x44_2 < (x4_1.length : Int)
         ·rw [if_pos c20] at H
          have c20b0 : decide (x44_2 < (x4_1.length : Int)) = true := decide_eq_true c20
          clear c20
          replace H := Option.bind_eq_some_iff.mp H
          obtain ⟨⟨t201, t202, t203⟩, A210, H⟩ := H
          replace H : (if t203 = 0 then (if t201.toList = (rdOf ByteArray.empty x4_1 x44_2).toList then (gafferlaw01_PackMany.l1 k2 t202 x4_1 (x4_1.length : Int) (wrap64 (x44_2 + 1))) else (some false)) else (some false)) = some r := H
          have A21 := Aside0.mk A210
          clear A210
          by_cases c22 : t203 = 0
          ·rw [if_pos c22] at H
           have c22b0 : (t203 == 0) = true := beq_iff_eq.mpr c22
           have c22b1 : (t203 != 0) = false := bne_eq_false_iff_eq.mpr c22
           clear c22
           by_cases c23 : t201.toList = (rdOf ByteArray.empty x4_1 x44_2).toList
           ·rw [if_pos c23] at H
            have c23b0 : (t201.toList == (rdOf ByteArray.empty x4_1 x44_2).toList) = true := beq_iff_eq.mpr c23
            have c23b1 : (t201.toList != (rdOf ByteArray.empty x4_1 x44_2).toList) = false := bne_eq_false_iff_eq.mpr c23
            clear c23
            have H' := Aside0.mk H
            clear H
            have p200 : 0 ≤ (x44_2 : Int) := of_decide_eq_true (by first | (with_reducible assumption) | assumption)
            have q200 : x44_2 < (x4_1.length : Int) := of_decide_eq_true (by first | (with_reducible assumption) | assumption)
            obtain ⟨ad200, e200, hx200_0⟩ := Kd.at_string (Kd.R_reads' HO_42.out).2.2 x44_2 p200 q200
            cases e200
            replace p200 := eq_true p200
            replace q200 := eq_true q200
            go_wp2_with (first | ((with_reducible refine gate_callee (f := 27) rfl ?_); refine goesL_ (some 50) rfl rfl Try.func27 (by kernel_rfl) rfl #[.string x3_2] rfl (ar_) ?_; (with_reducible refine (pack_TakeFrame.calls k2 x3_2 t201 t202 t203 _ A21.out).mono ?_); rintro e w24 ⟨rfl, hb⟩; refine ⟨_, rfl, ?_⟩; replace HO_42 := Aside0.mk (Kd.R_below (by (with_reducible repeat (first | apply Kd.R_alloc | apply Kd.R_drewN | apply Kd.R_drew)); exact HO_42.out) hb); replace HB := Aside0.mk (below_step (bl_ HB) hb); (try clear hb); (try clear hb2); (try clear hk); (try clear hi)))
            go_roundg k2
            case measure => have := HK1.out; have := HK2.out; omega
            case rel => exact ⟨(t202), (wrap64 (x44_2 + 1)), (by first | rfl | (simp; done) | (simp [*]; done)), (by first | rfl | (simp; done) | (simp [*]; done)), H', ⟨by have := HK1.out; have := HK2.out; omega⟩, ⟨by (with_reducible repeat (first | apply Kd.R_alloc | apply Kd.R_drewN | apply Kd.R_drew)); exact HO_42.out⟩, ⟨bl_ HB⟩⟩
           ·rw [if_neg c23] at H
            have c23b0 : (t201.toList == (rdOf ByteArray.empty x4_1 x44_2).toList) = false := beq_eq_false_iff_ne.mpr c23
            have c23b1 : (t201.toList != (rdOf ByteArray.empty x4_1 x44_2).toList) = true := bne_iff_ne.mpr c23
            exact absurd (H.trans (congrArg some hr)) (by simp)
          ·rw [if_neg c22] at H
           have c22b0 : (t203 == 0) = false := beq_eq_false_iff_ne.mpr c22
           have c22b1 : (t203 != 0) = true := bne_iff_ne.mpr c22
           exact absurd (H.trans (congrArg some hr)) (by simp)
         ·rw [if_neg c20] at H
          exact absurd H (by simp)
        ·rw [if_neg c19] at H
         exact absurd H (by simp)
       ·rw [if_neg c18] at H
        have c18b0 : decide (x44_2 < (x4_1.length : Int)) = false := decide_eq_false c18
        clear c18
        obtain rfl := Option.some.inj H
        go_wp2
        go_ret
        exact ⟨by first | rfl | (simp; done) | (simp [*]; done), bl_ HB⟩
 ·replace c3 := Bool.eq_false_iff.mpr c3
  subst c3
  have H1 : (some false) = some r := by rw [if_neg (show ¬ (false = true) by decide)] at H; exact H
  clear H
  have H := H1
  clear H1
  exact absurd (H.trans (congrArg some hr)) (by simp)

/-- THE ONE PURE STATEMENT of gafferlaw01_PackMany: yours. -/
def gafferlaw01_PackMany.Pure : Prop := ∀ (x0 : List ByteArray), (okSl 16 okStr) x0 → ∃ k, gafferlaw01_PackMany.f k x0 = some true

/-! ### gafferlaw01_PackBack: function 11 -/
def gafferlaw01_PackBack.j0 : Nat → ByteArray → ByteArray → ByteArray → ByteArray → Int → Int → ByteArray → ByteArray → Int → Bool → Option (Bool)
 | 0, _, _, _, _, _, _, _, _, _, _ => none
 | k + 1, x1, x2, x10, x11, x12, x14, x15, x16, x17, x68 => if x68 = true then (some false) else (if (x1.size : Int) > 65536 then (if x12 = 2 then (some (x14 == 2)) else (some false)) else (if x10.toList = x1.toList then (if x11.toList = x2.toList then (if x12 = 0 then (if x14 = 0 then (if x15.toList = x1.toList then (if x16.toList = x2.toList then (some (x17 == 0)) else (some false)) else (some false)) else (some false)) else (some false)) else (some false)) else (some false)))
def gafferlaw01_PackBack.f (k : Nat) (a0 : Int) (a1 : ByteArray) (a2 : ByteArray) : Option (Bool) := (pack_Number.f k a0).bind fun t204 => (if t204.size + a2.size ≤ 9223372036854775807 then ((pack_TakeNumber.f k (t204 ++ a2)).bind fun bt205 => ((pack_Text.f k a1).bind fun t208 => (if t208.size + a2.size ≤ 9223372036854775807 then ((pack_TakeText.f k (t208 ++ a2)).bind fun bt209 => ((pack_Frame.f k a1).bind fun bt212 => (if bt212.1.size + a2.size ≤ 9223372036854775807 then ((pack_TakeFrame.f k (bt212.1 ++ a2)).bind fun bt214 => ((gafferlaw01_numbers.f k).bind fun t217 => (if t217 = true then ((gafferlaw01_frames.f k).bind fun t218 => (if t218 = true then (if bt205.1 = a0 then (if bt205.2.1.toList = a2.toList then (gafferlaw01_PackBack.j0 k a1 a2 bt209.1 bt209.2.1 bt209.2.2 bt212.2 bt214.1 bt214.2.1 bt214.2.2 (bt205.2.2 != 0)) else (gafferlaw01_PackBack.j0 k a1 a2 bt209.1 bt209.2.1 bt209.2.2 bt212.2 bt214.1 bt214.2.1 bt214.2.2 true)) else (gafferlaw01_PackBack.j0 k a1 a2 bt209.1 bt209.2.1 bt209.2.2 bt212.2 bt214.1 bt214.2.1 bt214.2.2 true)) else (gafferlaw01_PackBack.j0 k a1 a2 bt209.1 bt209.2.1 bt209.2.2 bt212.2 bt214.1 bt214.2.1 bt214.2.2 true))) else (gafferlaw01_PackBack.j0 k a1 a2 bt209.1 bt209.2.1 bt209.2.2 bt212.2 bt214.1 bt214.2.1 bt214.2.2 true)))) else (none)))) else (none)))) else (none))
theorem gafferlaw01_PackBack.mono_l : ∀ k, (∀ y0 y1 y2 y3 y4 y5 y6 y7 y8 y9, LeO (gafferlaw01_PackBack.j0 k y0 y1 y2 y3 y4 y5 y6 y7 y8 y9) (gafferlaw01_PackBack.j0 (k + 1) y0 y1 y2 y3 y4 y5 y6 y7 y8 y9))
 | 0 => fun _ _ _ _ _ _ _ _ _ _ r h => by simp [gafferlaw01_PackBack.j0] at h
 | k + 1 => by
  have ih0 := gafferlaw01_PackBack.mono_l k
  ·intro y0 y1 y2 y3 y4 y5 y6 y7 y8 y9
   unfold gafferlaw01_PackBack.j0
   repeat' first
   | (with_reducible exact ih0 _ _ _ _ _ _ _ _ _ _)
   | (with_reducible exact gafferlaw01_frames.mono _)
   | (with_reducible exact gafferlaw01_numbers.mono _)
   | (with_reducible exact pack_Frame.mono _ _)
   | (with_reducible exact pack_Number.mono _ _)
   | (with_reducible exact pack_TakeFrame.mono _ _)
   | (with_reducible exact pack_TakeNumber.mono _ _)
   | (with_reducible exact pack_TakeText.mono _ _)
   | (with_reducible exact pack_Text.mono _ _)
   | (with_reducible exact LeO.refl _)
   | (with_reducible exact LeO.none _)
   | (with_reducible refine LeO.ite ?_ ?_)
   | (with_reducible refine LeO.bind ?_ (fun _ => ?_))
   | exact ih0 _ _ _ _ _ _ _ _ _ _
   | exact gafferlaw01_frames.mono _
   | exact gafferlaw01_numbers.mono _
   | exact pack_Frame.mono _ _
   | exact pack_Number.mono _ _
   | exact pack_TakeFrame.mono _ _
   | exact pack_TakeNumber.mono _ _
   | exact pack_TakeText.mono _ _
   | exact pack_Text.mono _ _
   | exact LeO.none _
   | refine LeO.ite ?_ ?_
   | refine LeO.bind ?_ (fun _ => ?_)
theorem gafferlaw01_PackBack.mono : ∀ a0 a1 a2 k, LeO (gafferlaw01_PackBack.f k a0 a1 a2) (gafferlaw01_PackBack.f (k + 1) a0 a1 a2) := by
 intro a0 a1 a2 k
 have ih0 := gafferlaw01_PackBack.mono_l k
 unfold gafferlaw01_PackBack.f
 repeat' first
   | (with_reducible exact ih0 _ _ _ _ _ _ _ _ _ _)
   | (with_reducible exact gafferlaw01_frames.mono _)
   | (with_reducible exact gafferlaw01_numbers.mono _)
   | (with_reducible exact pack_Frame.mono _ _)
   | (with_reducible exact pack_Number.mono _ _)
   | (with_reducible exact pack_TakeFrame.mono _ _)
   | (with_reducible exact pack_TakeNumber.mono _ _)
   | (with_reducible exact pack_TakeText.mono _ _)
   | (with_reducible exact pack_Text.mono _ _)
   | (with_reducible exact LeO.refl _)
   | (with_reducible exact LeO.none _)
   | (with_reducible refine LeO.ite ?_ ?_)
   | (with_reducible refine LeO.bind ?_ (fun _ => ?_))
   | exact ih0 _ _ _ _ _ _ _ _ _ _
   | exact gafferlaw01_frames.mono _
   | exact gafferlaw01_numbers.mono _
   | exact pack_Frame.mono _ _
   | exact pack_Number.mono _ _
   | exact pack_TakeFrame.mono _ _
   | exact pack_TakeNumber.mono _ _
   | exact pack_TakeText.mono _ _
   | exact pack_Text.mono _ _
   | exact LeO.none _
   | refine LeO.ite ?_ ?_
   | refine LeO.bind ?_ (fun _ => ?_)
set_option maxHeartbeats 80000000 in
set_option maxRecDepth 100000 in
theorem gafferlaw01_PackBack.calls (k : Nat) (a0 : Int) (a1 : ByteArray) (a2 : ByteArray) (r : Bool) (w : World) (h : gafferlaw01_PackBack.f k a0 a1 a2 = some r) (hr : r = true) :
  Calls Try.prog 11 #[.int .u64 a0, .string a1, .string a2] w fun e w' => e = .returned (.bool r) ∧ Below w.heap.size w w' := by
 have HB := Aside0.mk (Below.refl w.heap.size w)
 have H : ((pack_Number.f k a0).bind fun t204 => (if t204.size + a2.size ≤ 9223372036854775807 then ((pack_TakeNumber.f k (t204 ++ a2)).bind fun bt205 => ((pack_Text.f k a1).bind fun t208 => (if t208.size + a2.size ≤ 9223372036854775807 then ((pack_TakeText.f k (t208 ++ a2)).bind fun bt209 => ((pack_Frame.f k a1).bind fun bt212 => (if bt212.1.size + a2.size ≤ 9223372036854775807 then ((pack_TakeFrame.f k (bt212.1 ++ a2)).bind fun bt214 => ((gafferlaw01_numbers.f k).bind fun t217 => (if t217 = true then ((gafferlaw01_frames.f k).bind fun t218 => (if t218 = true then (if bt205.1 = a0 then (if bt205.2.1.toList = a2.toList then (gafferlaw01_PackBack.j0 k a1 a2 bt209.1 bt209.2.1 bt209.2.2 bt212.2 bt214.1 bt214.2.1 bt214.2.2 (bt205.2.2 != 0)) else (gafferlaw01_PackBack.j0 k a1 a2 bt209.1 bt209.2.1 bt209.2.2 bt212.2 bt214.1 bt214.2.1 bt214.2.2 true)) else (gafferlaw01_PackBack.j0 k a1 a2 bt209.1 bt209.2.1 bt209.2.2 bt212.2 bt214.1 bt214.2.1 bt214.2.2 true)) else (gafferlaw01_PackBack.j0 k a1 a2 bt209.1 bt209.2.1 bt209.2.2 bt212.2 bt214.1 bt214.2.1 bt214.2.2 true))) else (gafferlaw01_PackBack.j0 k a1 a2 bt209.1 bt209.2.1 bt209.2.2 bt212.2 bt214.1 bt214.2.1 bt214.2.2 true)))) else (none)))) else (none)))) else (none))) = some r := h
 clear h
 replace H := Option.bind_eq_some_iff.mp H
 obtain ⟨t204, A40, H⟩ := H
 replace H : (if t204.size + a2.size ≤ 9223372036854775807 then ((pack_TakeNumber.f k (t204 ++ a2)).bind fun bt205 => ((pack_Text.f k a1).bind fun t208 => (if t208.size + a2.size ≤ 9223372036854775807 then ((pack_TakeText.f k (t208 ++ a2)).bind fun bt209 => ((pack_Frame.f k a1).bind fun bt212 => (if bt212.1.size + a2.size ≤ 9223372036854775807 then ((pack_TakeFrame.f k (bt212.1 ++ a2)).bind fun bt214 => ((gafferlaw01_numbers.f k).bind fun t217 => (if t217 = true then ((gafferlaw01_frames.f k).bind fun t218 => (if t218 = true then (if bt205.1 = a0 then (if bt205.2.1.toList = a2.toList then (gafferlaw01_PackBack.j0 k a1 a2 bt209.1 bt209.2.1 bt209.2.2 bt212.2 bt214.1 bt214.2.1 bt214.2.2 (bt205.2.2 != 0)) else (gafferlaw01_PackBack.j0 k a1 a2 bt209.1 bt209.2.1 bt209.2.2 bt212.2 bt214.1 bt214.2.1 bt214.2.2 true)) else (gafferlaw01_PackBack.j0 k a1 a2 bt209.1 bt209.2.1 bt209.2.2 bt212.2 bt214.1 bt214.2.1 bt214.2.2 true)) else (gafferlaw01_PackBack.j0 k a1 a2 bt209.1 bt209.2.1 bt209.2.2 bt212.2 bt214.1 bt214.2.1 bt214.2.2 true))) else (gafferlaw01_PackBack.j0 k a1 a2 bt209.1 bt209.2.1 bt209.2.2 bt212.2 bt214.1 bt214.2.1 bt214.2.2 true)))) else (none)))) else (none)))) else (none)) = some r := H
 have A4 := Aside0.mk A40
 clear A40
 by_cases c5 : t204.size + a2.size ≤ 9223372036854775807
 ·rw [if_pos c5] at H
  have c5b0 := eq_true c5
  have c5b1 : decide (t204.size + a2.size ≤ 9223372036854775807) = true := decide_eq_true c5
  try have c5b2 : (9223372036854775807 < t204.size + a2.size) = False := eq_false (Nat.not_lt.2 c5)
  clear c5
  replace H := Option.bind_eq_some_iff.mp H
  obtain ⟨⟨t205, t206, t207⟩, A60, H⟩ := H
  replace H : ((pack_Text.f k a1).bind fun t208 => (if t208.size + a2.size ≤ 9223372036854775807 then ((pack_TakeText.f k (t208 ++ a2)).bind fun bt209 => ((pack_Frame.f k a1).bind fun bt212 => (if bt212.1.size + a2.size ≤ 9223372036854775807 then ((pack_TakeFrame.f k (bt212.1 ++ a2)).bind fun bt214 => ((gafferlaw01_numbers.f k).bind fun t217 => (if t217 = true then ((gafferlaw01_frames.f k).bind fun t218 => (if t218 = true then (if t205 = a0 then (if t206.toList = a2.toList then (gafferlaw01_PackBack.j0 k a1 a2 bt209.1 bt209.2.1 bt209.2.2 bt212.2 bt214.1 bt214.2.1 bt214.2.2 (t207 != 0)) else (gafferlaw01_PackBack.j0 k a1 a2 bt209.1 bt209.2.1 bt209.2.2 bt212.2 bt214.1 bt214.2.1 bt214.2.2 true)) else (gafferlaw01_PackBack.j0 k a1 a2 bt209.1 bt209.2.1 bt209.2.2 bt212.2 bt214.1 bt214.2.1 bt214.2.2 true)) else (gafferlaw01_PackBack.j0 k a1 a2 bt209.1 bt209.2.1 bt209.2.2 bt212.2 bt214.1 bt214.2.1 bt214.2.2 true))) else (gafferlaw01_PackBack.j0 k a1 a2 bt209.1 bt209.2.1 bt209.2.2 bt212.2 bt214.1 bt214.2.1 bt214.2.2 true)))) else (none)))) else (none))) = some r := H
  have A6 := Aside0.mk A60
  clear A60
  replace H := Option.bind_eq_some_iff.mp H
  obtain ⟨t208, A70, H⟩ := H
  replace H : (if t208.size + a2.size ≤ 9223372036854775807 then ((pack_TakeText.f k (t208 ++ a2)).bind fun bt209 => ((pack_Frame.f k a1).bind fun bt212 => (if bt212.1.size + a2.size ≤ 9223372036854775807 then ((pack_TakeFrame.f k (bt212.1 ++ a2)).bind fun bt214 => ((gafferlaw01_numbers.f k).bind fun t217 => (if t217 = true then ((gafferlaw01_frames.f k).bind fun t218 => (if t218 = true then (if t205 = a0 then (if t206.toList = a2.toList then (gafferlaw01_PackBack.j0 k a1 a2 bt209.1 bt209.2.1 bt209.2.2 bt212.2 bt214.1 bt214.2.1 bt214.2.2 (t207 != 0)) else (gafferlaw01_PackBack.j0 k a1 a2 bt209.1 bt209.2.1 bt209.2.2 bt212.2 bt214.1 bt214.2.1 bt214.2.2 true)) else (gafferlaw01_PackBack.j0 k a1 a2 bt209.1 bt209.2.1 bt209.2.2 bt212.2 bt214.1 bt214.2.1 bt214.2.2 true)) else (gafferlaw01_PackBack.j0 k a1 a2 bt209.1 bt209.2.1 bt209.2.2 bt212.2 bt214.1 bt214.2.1 bt214.2.2 true))) else (gafferlaw01_PackBack.j0 k a1 a2 bt209.1 bt209.2.1 bt209.2.2 bt212.2 bt214.1 bt214.2.1 bt214.2.2 true)))) else (none)))) else (none)) = some r := H
  have A7 := Aside0.mk A70
  clear A70
  by_cases c8 : t208.size + a2.size ≤ 9223372036854775807
  ·rw [if_pos c8] at H
   have c8b0 := eq_true c8
   have c8b1 : decide (t208.size + a2.size ≤ 9223372036854775807) = true := decide_eq_true c8
   try have c8b2 : (9223372036854775807 < t208.size + a2.size) = False := eq_false (Nat.not_lt.2 c8)
   clear c8
   replace H := Option.bind_eq_some_iff.mp H
   obtain ⟨⟨t209, t210, t211⟩, A90, H⟩ := H
   replace H : ((pack_Frame.f k a1).bind fun bt212 => (if bt212.1.size + a2.size ≤ 9223372036854775807 then ((pack_TakeFrame.f k (bt212.1 ++ a2)).bind fun bt214 => ((gafferlaw01_numbers.f k).bind fun t217 => (if t217 = true then ((gafferlaw01_frames.f k).bind fun t218 => (if t218 = true then (if t205 = a0 then (if t206.toList = a2.toList then (gafferlaw01_PackBack.j0 k a1 a2 t209 t210 t211 bt212.2 bt214.1 bt214.2.1 bt214.2.2 (t207 != 0)) else (gafferlaw01_PackBack.j0 k a1 a2 t209 t210 t211 bt212.2 bt214.1 bt214.2.1 bt214.2.2 true)) else (gafferlaw01_PackBack.j0 k a1 a2 t209 t210 t211 bt212.2 bt214.1 bt214.2.1 bt214.2.2 true)) else (gafferlaw01_PackBack.j0 k a1 a2 t209 t210 t211 bt212.2 bt214.1 bt214.2.1 bt214.2.2 true))) else (gafferlaw01_PackBack.j0 k a1 a2 t209 t210 t211 bt212.2 bt214.1 bt214.2.1 bt214.2.2 true)))) else (none))) = some r := H
   have A9 := Aside0.mk A90
   clear A90
   replace H := Option.bind_eq_some_iff.mp H
   obtain ⟨⟨t212, t213⟩, A100, H⟩ := H
   replace H : (if t212.size + a2.size ≤ 9223372036854775807 then ((pack_TakeFrame.f k (t212 ++ a2)).bind fun bt214 => ((gafferlaw01_numbers.f k).bind fun t217 => (if t217 = true then ((gafferlaw01_frames.f k).bind fun t218 => (if t218 = true then (if t205 = a0 then (if t206.toList = a2.toList then (gafferlaw01_PackBack.j0 k a1 a2 t209 t210 t211 t213 bt214.1 bt214.2.1 bt214.2.2 (t207 != 0)) else (gafferlaw01_PackBack.j0 k a1 a2 t209 t210 t211 t213 bt214.1 bt214.2.1 bt214.2.2 true)) else (gafferlaw01_PackBack.j0 k a1 a2 t209 t210 t211 t213 bt214.1 bt214.2.1 bt214.2.2 true)) else (gafferlaw01_PackBack.j0 k a1 a2 t209 t210 t211 t213 bt214.1 bt214.2.1 bt214.2.2 true))) else (gafferlaw01_PackBack.j0 k a1 a2 t209 t210 t211 t213 bt214.1 bt214.2.1 bt214.2.2 true)))) else (none)) = some r := H
   have A10 := Aside0.mk A100
   clear A100
   by_cases c11 : t212.size + a2.size ≤ 9223372036854775807
   ·rw [if_pos c11] at H
    have c11b0 := eq_true c11
    have c11b1 : decide (t212.size + a2.size ≤ 9223372036854775807) = true := decide_eq_true c11
    try have c11b2 : (9223372036854775807 < t212.size + a2.size) = False := eq_false (Nat.not_lt.2 c11)
    clear c11
    replace H := Option.bind_eq_some_iff.mp H
    obtain ⟨⟨t214, t215, t216⟩, A120, H⟩ := H
    replace H : ((gafferlaw01_numbers.f k).bind fun t217 => (if t217 = true then ((gafferlaw01_frames.f k).bind fun t218 => (if t218 = true then (if t205 = a0 then (if t206.toList = a2.toList then (gafferlaw01_PackBack.j0 k a1 a2 t209 t210 t211 t213 t214 t215 t216 (t207 != 0)) else (gafferlaw01_PackBack.j0 k a1 a2 t209 t210 t211 t213 t214 t215 t216 true)) else (gafferlaw01_PackBack.j0 k a1 a2 t209 t210 t211 t213 t214 t215 t216 true)) else (gafferlaw01_PackBack.j0 k a1 a2 t209 t210 t211 t213 t214 t215 t216 true))) else (gafferlaw01_PackBack.j0 k a1 a2 t209 t210 t211 t213 t214 t215 t216 true))) = some r := H
    have A12 := Aside0.mk A120
    clear A120
    have HC13 := Aside0.mk H
    clear H
    go_enter Try.func11, Try.ntmps11
    go_upto_region 5 with (first | ((with_reducible refine gate_callee (f := 17) rfl ?_); refine goesL_ (some 20) rfl rfl Try.func17 (by kernel_rfl) rfl #[.int .u64 a0] rfl (ar_) ?_; (with_reducible refine (pack_Number.calls k a0 t204 _ A4.out).mono ?_); rintro e w14 ⟨rfl, hb⟩; refine ⟨_, rfl, ?_⟩; replace HB := Aside0.mk (below_step (bl_ HB) hb); (try clear hb); (try clear hb2); (try clear hk); (try clear hi)) | ((with_reducible refine gate_callee (f := 23) rfl ?_); refine goesL_ (some 23) rfl rfl Try.func23 (by kernel_rfl) rfl #[.string (t204 ++ a2)] rfl (ar_) ?_; (with_reducible refine (pack_TakeNumber.calls k (t204 ++ a2) t205 t206 t207 _ A6.out).mono ?_); rintro e w' ⟨rfl, ⟨nd, rfl⟩⟩; refine ⟨_, rfl, ?_⟩) | ((with_reducible refine gate_callee (f := 19) rfl ?_); refine goesL_ (some 29) rfl rfl Try.func19 (by kernel_rfl) rfl #[.string a1] rfl (ar_) ?_; (with_reducible refine (pack_Text.calls k a1 t208 _ A7.out).mono ?_); rintro e w15 ⟨rfl, hb⟩; refine ⟨_, rfl, ?_⟩; replace HB := Aside0.mk (below_step (bl_ HB) hb); (try clear hb); (try clear hb2); (try clear hk); (try clear hi)) | ((with_reducible refine gate_callee (f := 21) rfl ?_); refine goesL_ (some 32) rfl rfl Try.func21 (by kernel_rfl) rfl #[.string (t208 ++ a2)] rfl (ar_) ?_; (with_reducible refine (pack_TakeText.calls k (t208 ++ a2) t209 t210 t211 _ A9.out).mono ?_); rintro e w' ⟨rfl, ⟨nd, rfl⟩⟩; refine ⟨_, rfl, ?_⟩) | ((with_reducible refine gate_callee (f := 25) rfl ?_); refine goesL_ (some 38) rfl rfl Try.func25 (by kernel_rfl) rfl #[.string a1] rfl (ar_) ?_; (with_reducible refine (pack_Frame.calls k a1 t212 t213 _ A10.out).mono ?_); rintro e w16 ⟨rfl, hb⟩; refine ⟨_, rfl, ?_⟩; replace HB := Aside0.mk (below_step (bl_ HB) hb); (try clear hb); (try clear hb2); (try clear hk); (try clear hi)) | ((with_reducible refine gate_callee (f := 27) rfl ?_); refine goesL_ (some 45) rfl rfl Try.func27 (by kernel_rfl) rfl #[.string (t212 ++ a2)] rfl (ar_) ?_; (with_reducible refine (pack_TakeFrame.calls k (t212 ++ a2) t214 t215 t216 _ A12.out).mono ?_); rintro e w17 ⟨rfl, hb⟩; refine ⟨_, rfl, ?_⟩; replace HB := Aside0.mk (below_step (bl_ HB) hb); (try clear hb); (try clear hb2); (try clear hk); (try clear hi)))
    (try simp only [Act.put, List.setIfInBounds_toArray, List.set_cons_zero, List.set_cons_succ])
    go_cut [68] (fun v68 wc => ∃ (kq : Nat) (x68_12 : Bool), v68 = .bool x68_12 ∧ Aside0 (gafferlaw01_PackBack.j0 kq a1 a2 t209 t210 t211 t213 t214 t215 t216 x68_12 = some r) ∧ Aside0 (kq ≤ k) ∧ Aside0 (Below w.heap.size w wc))
    case first =>
     have H := HC13.out
     clear HC13
     replace H := Option.bind_eq_some_iff.mp H
     obtain ⟨t217, A180, H⟩ := H
     replace H : (if t217 = true then ((gafferlaw01_frames.f k).bind fun t218 => (if t218 = true then (if t205 = a0 then (if t206.toList = a2.toList then (gafferlaw01_PackBack.j0 k a1 a2 t209 t210 t211 t213 t214 t215 t216 (t207 != 0)) else (gafferlaw01_PackBack.j0 k a1 a2 t209 t210 t211 t213 t214 t215 t216 true)) else (gafferlaw01_PackBack.j0 k a1 a2 t209 t210 t211 t213 t214 t215 t216 true)) else (gafferlaw01_PackBack.j0 k a1 a2 t209 t210 t211 t213 t214 t215 t216 true))) else (gafferlaw01_PackBack.j0 k a1 a2 t209 t210 t211 t213 t214 t215 t216 true)) = some r := H
     have A18 := Aside0.mk A180
     clear A180
     by_cases c19 : t217 = true
     ·subst c19
      have H1 : ((gafferlaw01_frames.f k).bind fun t218 => (if t218 = true then (if t205 = a0 then (if t206.toList = a2.toList then (gafferlaw01_PackBack.j0 k a1 a2 t209 t210 t211 t213 t214 t215 t216 (t207 != 0)) else (gafferlaw01_PackBack.j0 k a1 a2 t209 t210 t211 t213 t214 t215 t216 true)) else (gafferlaw01_PackBack.j0 k a1 a2 t209 t210 t211 t213 t214 t215 t216 true)) else (gafferlaw01_PackBack.j0 k a1 a2 t209 t210 t211 t213 t214 t215 t216 true))) = some r := by rw [if_pos rfl] at H; exact H
      clear H
      have H := H1
      clear H1
      replace H := Option.bind_eq_some_iff.mp H
      obtain ⟨t218, A200, H⟩ := H
      replace H : (if t218 = true then (if t205 = a0 then (if t206.toList = a2.toList then (gafferlaw01_PackBack.j0 k a1 a2 t209 t210 t211 t213 t214 t215 t216 (t207 != 0)) else (gafferlaw01_PackBack.j0 k a1 a2 t209 t210 t211 t213 t214 t215 t216 true)) else (gafferlaw01_PackBack.j0 k a1 a2 t209 t210 t211 t213 t214 t215 t216 true)) else (gafferlaw01_PackBack.j0 k a1 a2 t209 t210 t211 t213 t214 t215 t216 true)) = some r := H
      have A20 := Aside0.mk A200
      clear A200
      by_cases c21 : t218 = true
      ·subst c21
       have H1 : (if t205 = a0 then (if t206.toList = a2.toList then (gafferlaw01_PackBack.j0 k a1 a2 t209 t210 t211 t213 t214 t215 t216 (t207 != 0)) else (gafferlaw01_PackBack.j0 k a1 a2 t209 t210 t211 t213 t214 t215 t216 true)) else (gafferlaw01_PackBack.j0 k a1 a2 t209 t210 t211 t213 t214 t215 t216 true)) = some r := by rw [if_pos rfl] at H; exact H
       clear H
       have H := H1
       clear H1
       by_cases c22 : t205 = a0
       ·rw [if_pos c22] at H
        have c22b0 : (t205 == a0) = true := beq_iff_eq.mpr c22
        have c22b1 : (t205 != a0) = false := bne_eq_false_iff_eq.mpr c22
        clear c22
        (first | rw [c22b0] | (simp only [i64_w, i32_w]; rw [c22b0]) | skip)
        by_cases c23 : t206.toList = a2.toList
        ·rw [if_pos c23] at H
         have c23b0 : (t206.toList == a2.toList) = true := beq_iff_eq.mpr c23
         have c23b1 : (t206.toList != a2.toList) = false := bne_eq_false_iff_eq.mpr c23
         clear c23
         have H' := Aside0.mk H
         clear H
         go_wp2_with (first | ((with_reducible refine gate_callee (f := 16) rfl ?_); refine goesL_ (some 49) rfl rfl Try.func16 (by kernel_rfl) rfl #[] rfl (ar_) ?_; (with_reducible refine (gafferlaw01_numbers.calls k  true _ A18.out).mono ?_); rintro e w24 ⟨rfl, hb⟩; refine ⟨_, rfl, ?_⟩; replace HB := Aside0.mk (below_step (bl_ HB) hb); (try clear hb); (try clear hb2); (try clear hk); (try clear hi)) | (go_at_call 29; (with_reducible refine (gafferlaw01_frames.calls k  true _ A20.out).mono ?_); rintro e w25 ⟨rfl, hb⟩; replace HB := Aside0.mk (below_step (bl_ HB) hb); (try clear hb); (try clear hb2); (try clear hk); (try clear hi)))
         go_meet
         case rel => exact ⟨_, ((t207 != 0)), (by first | rfl | (simp; done) | (simp [*]; done)), H', ⟨by first | omega | exact Nat.le_refl _⟩, ⟨bl_ HB⟩⟩
        ·rw [if_neg c23] at H
         have c23b0 : (t206.toList == a2.toList) = false := beq_eq_false_iff_ne.mpr c23
         have c23b1 : (t206.toList != a2.toList) = true := bne_iff_ne.mpr c23
         have H' := Aside0.mk H
         clear H
         go_wp2_with (first | ((with_reducible refine gate_callee (f := 16) rfl ?_); refine goesL_ (some 49) rfl rfl Try.func16 (by kernel_rfl) rfl #[] rfl (ar_) ?_; (with_reducible refine (gafferlaw01_numbers.calls k  true _ A18.out).mono ?_); rintro e w26 ⟨rfl, hb⟩; refine ⟨_, rfl, ?_⟩; replace HB := Aside0.mk (below_step (bl_ HB) hb); (try clear hb); (try clear hb2); (try clear hk); (try clear hi)) | (go_at_call 29; (with_reducible refine (gafferlaw01_frames.calls k  true _ A20.out).mono ?_); rintro e w27 ⟨rfl, hb⟩; replace HB := Aside0.mk (below_step (bl_ HB) hb); (try clear hb); (try clear hb2); (try clear hk); (try clear hi)))
         go_meet
         case rel => exact ⟨_, (true), (by first | rfl | (simp; done) | (simp [*]; done)), H', ⟨by first | omega | exact Nat.le_refl _⟩, ⟨bl_ HB⟩⟩
       ·rw [if_neg c22] at H
        have c22b0 : (t205 == a0) = false := beq_eq_false_iff_ne.mpr c22
        have c22b1 : (t205 != a0) = true := bne_iff_ne.mpr c22
        (first | rw [c22b0] | (simp only [i64_w, i32_w]; rw [c22b0]) | skip)
        have H' := Aside0.mk H
        clear H
        go_wp2_with (first | ((with_reducible refine gate_callee (f := 16) rfl ?_); refine goesL_ (some 49) rfl rfl Try.func16 (by kernel_rfl) rfl #[] rfl (ar_) ?_; (with_reducible refine (gafferlaw01_numbers.calls k  true _ A18.out).mono ?_); rintro e w28 ⟨rfl, hb⟩; refine ⟨_, rfl, ?_⟩; replace HB := Aside0.mk (below_step (bl_ HB) hb); (try clear hb); (try clear hb2); (try clear hk); (try clear hi)) | (go_at_call 29; (with_reducible refine (gafferlaw01_frames.calls k  true _ A20.out).mono ?_); rintro e w29 ⟨rfl, hb⟩; replace HB := Aside0.mk (below_step (bl_ HB) hb); (try clear hb); (try clear hb2); (try clear hk); (try clear hi)))
        go_meet
        case rel => exact ⟨_, (true), (by first | rfl | (simp; done) | (simp [*]; done)), H', ⟨by first | omega | exact Nat.le_refl _⟩, ⟨bl_ HB⟩⟩
      ·replace c21 := Bool.eq_false_iff.mpr c21
       subst c21
       have H1 : (gafferlaw01_PackBack.j0 k a1 a2 t209 t210 t211 t213 t214 t215 t216 true) = some r := by rw [if_neg (show ¬ (false = true) by decide)] at H; exact H
       clear H
       have H := H1
       clear H1
       have H' := Aside0.mk H
       clear H
       go_wp2_with (first | ((with_reducible refine gate_callee (f := 16) rfl ?_); refine goesL_ (some 49) rfl rfl Try.func16 (by kernel_rfl) rfl #[] rfl (ar_) ?_; (with_reducible refine (gafferlaw01_numbers.calls k  true _ A18.out).mono ?_); rintro e w30 ⟨rfl, hb⟩; refine ⟨_, rfl, ?_⟩; replace HB := Aside0.mk (below_step (bl_ HB) hb); (try clear hb); (try clear hb2); (try clear hk); (try clear hi)) | (go_at_call 29; (with_reducible refine (gafferlaw01_frames.calls k  false _ A20.out).mono ?_); rintro e w31 ⟨rfl, hb⟩; replace HB := Aside0.mk (below_step (bl_ HB) hb); (try clear hb); (try clear hb2); (try clear hk); (try clear hi)))
       go_meet
       case rel => exact ⟨_, (true), (by first | rfl | (simp; done) | (simp [*]; done)), H', ⟨by first | omega | exact Nat.le_refl _⟩, ⟨bl_ HB⟩⟩
     ·replace c19 := Bool.eq_false_iff.mpr c19
      subst c19
      have H1 : (gafferlaw01_PackBack.j0 k a1 a2 t209 t210 t211 t213 t214 t215 t216 true) = some r := by rw [if_neg (show ¬ (false = true) by decide)] at H; exact H
      clear H
      have H := H1
      clear H1
      have H' := Aside0.mk H
      clear H
      go_wp2_with (first | ((with_reducible refine gate_callee (f := 16) rfl ?_); refine goesL_ (some 49) rfl rfl Try.func16 (by kernel_rfl) rfl #[] rfl (ar_) ?_; (with_reducible refine (gafferlaw01_numbers.calls k  false _ A18.out).mono ?_); rintro e w32 ⟨rfl, hb⟩; refine ⟨_, rfl, ?_⟩; replace HB := Aside0.mk (below_step (bl_ HB) hb); (try clear hb); (try clear hb2); (try clear hk); (try clear hi)))
      go_meet
      case rel => exact ⟨_, (true), (by first | rfl | (simp; done) | (simp [*]; done)), H', ⟨by first | omega | exact Nat.le_refl _⟩, ⟨bl_ HB⟩⟩
    case rest =>
     clear HC13
     try clear c1
     try clear c2
     try clear p2
     try clear c5
     try clear c5b0
     try clear c5b1
     try clear c5b2
     try clear c8
     try clear c8b0
     try clear c8b1
     try clear c8b2
     try clear c11
     try clear c11b0
     try clear c11b1
     try clear c11b2
     try clear c16
     try clear c17
     try clear c19
     try clear c21
     try clear c22
     try clear c22b0
     try clear c22b1
     try clear c23
     try clear c23b0
     try clear c23b1
     try clear c25
     try clear c27
     obtain ⟨kq, x68_12, rfl, HA, HJ12, HB⟩ := hcut
     cases kq with
     | zero => exact absurd HA.out (by simp [gafferlaw01_PackBack.j0])
     | succ kj12 =>
      have H := HA.out
      clear HA
      simp only [gafferlaw01_PackBack.j0] at H
      by_cases c33 : x68_12 = true
      ·subst c33
       have H1 : (some false) = some r := by rw [if_pos rfl] at H; exact H
       clear H
       have H := H1
       clear H1
       exact absurd (H.trans (congrArg some hr)) (by simp)
      ·replace c33 := Bool.eq_false_iff.mpr c33
       subst c33
       have H1 : (if (a1.size : Int) > 65536 then (if t211 = 2 then (some (t213 == 2)) else (some false)) else (if t209.toList = a1.toList then (if t210.toList = a2.toList then (if t211 = 0 then (if t213 = 0 then (if t214.toList = a1.toList then (if t215.toList = a2.toList then (some (t216 == 0)) else (some false)) else (some false)) else (some false)) else (some false)) else (some false)) else (some false))) = some r := by rw [if_neg (show ¬ (false = true) by decide)] at H; exact H
       clear H
       have H := H1
       clear H1
       by_cases c34 : (a1.size : Int) > 65536
       ·rw [if_pos c34] at H
        have c34b0 : decide (65536 < (a1.size : Int)) = true := decide_eq_true c34
        have c34b1 : decide (65536 < a1.size) = true := decide_eq_true (by omega)
        clear c34
        by_cases c35 : t211 = 2
        ·rw [if_pos c35] at H
         have c35b0 : (t211 == 2) = true := beq_iff_eq.mpr c35
         have c35b1 : (t211 != 2) = false := bne_eq_false_iff_eq.mpr c35
         clear c35
         obtain rfl := Option.some.inj H
         go_wp2
         go_ret
         exact ⟨by first | rfl | (simp; done) | (simp [*]; done), bl_ HB⟩
        ·rw [if_neg c35] at H
         have c35b0 : (t211 == 2) = false := beq_eq_false_iff_ne.mpr c35
         have c35b1 : (t211 != 2) = true := bne_iff_ne.mpr c35
         exact absurd (H.trans (congrArg some hr)) (by simp)
       ·rw [if_neg c34] at H
        have c34b0 : decide (65536 < (a1.size : Int)) = false := decide_eq_false c34
        have c34b1 : decide (65536 < a1.size) = false := decide_eq_false (by omega)
        clear c34
        by_cases c36 : t209.toList = a1.toList
        ·rw [if_pos c36] at H
         have c36b0 : (t209.toList == a1.toList) = true := beq_iff_eq.mpr c36
         have c36b1 : (t209.toList != a1.toList) = false := bne_eq_false_iff_eq.mpr c36
         clear c36
         by_cases c37 : t210.toList = a2.toList
         ·rw [if_pos c37] at H
          have c37b0 : (t210.toList == a2.toList) = true := beq_iff_eq.mpr c37
          have c37b1 : (t210.toList != a2.toList) = false := bne_eq_false_iff_eq.mpr c37
          clear c37
          by_cases c38 : t211 = 0
          ·rw [if_pos c38] at H
           have c38b0 : (t211 == 0) = true := beq_iff_eq.mpr c38
           have c38b1 : (t211 != 0) = false := bne_eq_false_iff_eq.mpr c38
           clear c38
           by_cases c39 : t213 = 0
           ·rw [if_pos c39] at H
            have c39b0 : (t213 == 0) = true := beq_iff_eq.mpr c39
            have c39b1 : (t213 != 0) = false := bne_eq_false_iff_eq.mpr c39
            clear c39
            by_cases c40 : t214.toList = a1.toList
            ·rw [if_pos c40] at H
             have c40b0 : (t214.toList == a1.toList) = true := beq_iff_eq.mpr c40
             have c40b1 : (t214.toList != a1.toList) = false := bne_eq_false_iff_eq.mpr c40
             clear c40
             by_cases c41 : t215.toList = a2.toList
             ·rw [if_pos c41] at H
              have c41b0 : (t215.toList == a2.toList) = true := beq_iff_eq.mpr c41
              have c41b1 : (t215.toList != a2.toList) = false := bne_eq_false_iff_eq.mpr c41
              clear c41
              obtain rfl := Option.some.inj H
              go_wp2
              go_ret
              exact ⟨by first | rfl | (simp; done) | (simp [*]; done), bl_ HB⟩
             ·rw [if_neg c41] at H
              have c41b0 : (t215.toList == a2.toList) = false := beq_eq_false_iff_ne.mpr c41
              have c41b1 : (t215.toList != a2.toList) = true := bne_iff_ne.mpr c41
              exact absurd (H.trans (congrArg some hr)) (by simp)
            ·rw [if_neg c40] at H
             have c40b0 : (t214.toList == a1.toList) = false := beq_eq_false_iff_ne.mpr c40
             have c40b1 : (t214.toList != a1.toList) = true := bne_iff_ne.mpr c40
             exact absurd (H.trans (congrArg some hr)) (by simp)
           ·rw [if_neg c39] at H
            have c39b0 : (t213 == 0) = false := beq_eq_false_iff_ne.mpr c39
            have c39b1 : (t213 != 0) = true := bne_iff_ne.mpr c39
            exact absurd (H.trans (congrArg some hr)) (by simp)
          ·rw [if_neg c38] at H
           have c38b0 : (t211 == 0) = false := beq_eq_false_iff_ne.mpr c38
           have c38b1 : (t211 != 0) = true := bne_iff_ne.mpr c38
           exact absurd (H.trans (congrArg some hr)) (by simp)
         ·rw [if_neg c37] at H
          have c37b0 : (t210.toList == a2.toList) = false := beq_eq_false_iff_ne.mpr c37
          have c37b1 : (t210.toList != a2.toList) = true := bne_iff_ne.mpr c37
          exact absurd (H.trans (congrArg some hr)) (by simp)
        ·rw [if_neg c36] at H
         have c36b0 : (t209.toList == a1.toList) = false := beq_eq_false_iff_ne.mpr c36
         have c36b1 : (t209.toList != a1.toList) = true := bne_iff_ne.mpr c36
         exact absurd (H.trans (congrArg some hr)) (by simp)
   ·rw [if_neg c11] at H
    exact absurd H (by simp)
  ·rw [if_neg c8] at H
   exact absurd H (by simp)
 ·rw [if_neg c5] at H
  exact absurd H (by simp)

/-- THE ONE PURE STATEMENT of gafferlaw01_PackBack: yours. -/
def gafferlaw01_PackBack.Pure : Prop := ∀ (a0 : Int) (a1 : ByteArray) (a2 : ByteArray), (Lit.int .u64 a0).wf = true → a1.size ≤ 140737488351232 → a2.size ≤ 140737488351232 → ∃ k, gafferlaw01_PackBack.f k a0 a1 a2 = some true
theorem gafferlaw01_PackBack.walk (P : gafferlaw01_PackBack.Pure) (a0 : Int) (a1 : ByteArray) (a2 : ByteArray) (w : World) (w0 : (Lit.int .u64 a0).wf = true) (w1 : a1.size ≤ 140737488351232) (w2 : a2.size ≤ 140737488351232) :
  Calls Try.prog 11 #[.int .u64 a0, .string a1, .string a2] w fun e w' => e = .returned (.bool true) ∧ Below w.heap.size w w' := by
 obtain ⟨k, h⟩ := P a0 a1 a2 w0 w1 w2
 refine (gafferlaw01_PackBack.calls k a0 a1 a2 true w h rfl).mono ?_
 rintro e w' ⟨rfl, hd⟩
 exact ⟨rfl, hd⟩

end Go.Proofs.Ytkmkbhiipieolaa.PA
