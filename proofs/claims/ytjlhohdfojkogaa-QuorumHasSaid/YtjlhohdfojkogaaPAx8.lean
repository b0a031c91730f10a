-- Written for this claim by a program of this session. Lean checks it.
import Derived.Test.YtjlhohdfojkogaaPAx0
import Derived.Test.YtjlhohdfojkogaaPAx3
import Derived.Test.YtjlhohdfojkogaaPAx4
namespace Go.Proofs.Ytjlhohdfojkogaa.PA
open Go.RowKit Go.Proofs.YtjlhohdfojkogaaW.PrintWords Go.Proofs.YtjlhohdfojkogaaW.PrintLast Go.Proofs.YtjlhohdfojkogaaW.PrintMore Go.Proofs.Ytjlhohdfojkogaa.Sh Go.Proofs.Ytjlhohdfojkogaa.Op
attribute [local go_sem] max2_int min2_int max_two min_two max_three min_three max_four min_four   -- for this text's walks alone
set_option linter.unusedVariables false
set_option linter.unusedSimpArgs false

/-! ### gafferlaw15_QuorumHas: function 6 -/
mutual
def gafferlaw15_QuorumHas.j0 : Nat → List Int → Int → Int → List (S34) → Bool → Option (Bool)
 | 0, _, _, _, _, _ => none
 | k + 1, x0, x1, x2, x3, x21 => if x21 = true then (some false) else ((quorum_Settled.f k x0 x1 x2 x3).bind fun t218 => ((quorum_Most.f k x0 x0).bind fun t219 => (if t219 = true then (gafferlaw15_QuorumHas.l0 k x0 x1 x2 x3 t218 ([] : List Int) ([] : List Int) x0 (x0.length : Int) 0) else (some (t218 == 0)))))
def gafferlaw15_QuorumHas.l0 : Nat → List Int → Int → Int → List (S34) → Int → List Int → List Int → List Int → Int → Int → Option (Bool)
 | 0, _, _, _, _, _, _, _, _, _, _ => none
 | k + 1, x0, x1, x2, x3, x9, x10, x11, x33, x34, x35 => if x35 < x34 then (if 0 ≤ x35 then (if x35 < (x33.length : Int) then (gafferlaw15_QuorumHas.l1 k x0 x1 x2 x3 x9 x10 x11 (rd x33 x35) 0 (wrap64 ((x3.length : Int) - 1)) x33 x34 x35) else (none)) else (none)) else ((quorum_Most.f k x0 x10).bind fun t220 => (if t220 = true then ((quorum_Most.f k x0 x11).bind fun t221 => (some (!t221))) else (some false)))
def gafferlaw15_QuorumHas.l1 : Nat → List Int → Int → Int → List (S34) → Int → List Int → List Int → Int → Int → Int → List Int → Int → Int → Option (Bool)
 | 0, _, _, _, _, _, _, _, _, _, _, _, _, _ => none
 | k + 1, x0, x1, x2, x3, x9, x10, x11, x13, x14, x15, x33, x34, x35 => if x15 ≥ 0 then (if 0 ≤ x15 then (if x15 < (x3.length : Int) then (if ((rd_T34 x3 x15).f0) = x13 then (gafferlaw15_QuorumHas.l1 k x0 x1 x2 x3 x9 x10 x11 x13 ((rd_T34 x3 x15).f2) (wrap64 (x15 - 1)) x33 x34 x35) else (gafferlaw15_QuorumHas.l1 k x0 x1 x2 x3 x9 x10 x11 x13 x14 (wrap64 (x15 - 1)) x33 x34 x35)) else (none)) else (none)) else (if x13 = x1 then (gafferlaw15_QuorumHas.j3 k x0 x1 x2 x3 x9 x10 x11 x13 x2 x33 x34 x35) else (gafferlaw15_QuorumHas.j3 k x0 x1 x2 x3 x9 x10 x11 x13 x14 x33 x34 x35))
def gafferlaw15_QuorumHas.j3 : Nat → List Int → Int → Int → List (S34) → Int → List Int → List Int → Int → Int → List Int → Int → Int → Option (Bool)
 | 0, _, _, _, _, _, _, _, _, _, _, _, _ => none
 | k + 1, x0, x1, x2, x3, x9, x10, x11, x13, x14, x33, x34, x35 => if x14 ≥ x9 then (if x10.length < 17592186044416 then ((some (x10 ++ [x13] : List Int)).bind fun y225 => (if x14 > x9 then (if x11.length < 17592186044416 then (gafferlaw15_QuorumHas.l0 k x0 x1 x2 x3 x9 y225 (x11 ++ [x13]) x33 x34 (wrap64 (x35 + 1))) else (none)) else (gafferlaw15_QuorumHas.l0 k x0 x1 x2 x3 x9 y225 x11 x33 x34 (wrap64 (x35 + 1))))) else (none)) else (if x14 > x9 then (if x11.length < 17592186044416 then (gafferlaw15_QuorumHas.l0 k x0 x1 x2 x3 x9 x10 (x11 ++ [x13]) x33 x34 (wrap64 (x35 + 1))) else (none)) else (gafferlaw15_QuorumHas.l0 k x0 x1 x2 x3 x9 x10 x11 x33 x34 (wrap64 (x35 + 1))))
end
def gafferlaw15_QuorumHas.f (k : Nat) (l0 : List Int) (a1 : Int) (a2 : Int) (l3 : List (S34)) : Option (Bool) := (gafferlaw15_most.f k).bind fun t216 => (if t216 = true then ((gafferlaw15_settled.f k).bind fun t217 => (gafferlaw15_QuorumHas.j0 k l0 a1 a2 l3 (!t217))) else (gafferlaw15_QuorumHas.j0 k l0 a1 a2 l3 true))
theorem gafferlaw15_QuorumHas.mono_l : ∀ k, (∀ y0 y1 y2 y3 y4, LeO (gafferlaw15_QuorumHas.j0 k y0 y1 y2 y3 y4) (gafferlaw15_QuorumHas.j0 (k + 1) y0 y1 y2 y3 y4)) ∧ (∀ y0 y1 y2 y3 y4 y5 y6 y7 y8 y9, LeO (gafferlaw15_QuorumHas.l0 k y0 y1 y2 y3 y4 y5 y6 y7 y8 y9) (gafferlaw15_QuorumHas.l0 (k + 1) y0 y1 y2 y3 y4 y5 y6 y7 y8 y9)) ∧ (∀ y0 y1 y2 y3 y4 y5 y6 y7 y8 y9 y10 y11 y12, LeO (gafferlaw15_QuorumHas.l1 k y0 y1 y2 y3 y4 y5 y6 y7 y8 y9 y10 y11 y12) (gafferlaw15_QuorumHas.l1 (k + 1) y0 y1 y2 y3 y4 y5 y6 y7 y8 y9 y10 y11 y12)) ∧ (∀ y0 y1 y2 y3 y4 y5 y6 y7 y8 y9 y10 y11, LeO (gafferlaw15_QuorumHas.j3 k y0 y1 y2 y3 y4 y5 y6 y7 y8 y9 y10 y11) (gafferlaw15_QuorumHas.j3 (k + 1) y0 y1 y2 y3 y4 y5 y6 y7 y8 y9 y10 y11))
 | 0 => ⟨fun _ _ _ _ _ r h => by simp [gafferlaw15_QuorumHas.j0] at h, fun _ _ _ _ _ _ _ _ _ _ r h => by simp [gafferlaw15_QuorumHas.l0] at h, fun _ _ _ _ _ _ _ _ _ _ _ _ _ r h => by simp [gafferlaw15_QuorumHas.l1] at h, fun _ _ _ _ _ _ _ _ _ _ _ _ r h => by simp [gafferlaw15_QuorumHas.j3] at h⟩
 | k + 1 => by
  obtain ⟨ih0, ih1, ih2, ih3⟩ := gafferlaw15_QuorumHas.mono_l k
  refine ⟨?_, ?_, ?_, ?_⟩
  ·intro y0 y1 y2 y3 y4
   unfold gafferlaw15_QuorumHas.j0
   repeat' first
   | (with_reducible exact ih0 _ _ _ _ _)
   | (with_reducible exact ih1 _ _ _ _ _ _ _ _ _ _)
   | (with_reducible exact ih2 _ _ _ _ _ _ _ _ _ _ _ _ _)
   | (with_reducible exact ih3 _ _ _ _ _ _ _ _ _ _ _ _)
   | (with_reducible exact gafferlaw15_most.mono _)
   | (with_reducible exact gafferlaw15_settled.mono _)
   | (with_reducible exact quorum_Most.mono _ _ _)
   | (with_reducible exact quorum_Settled.mono _ _ _ _ _)
   | (with_reducible exact LeO.refl _)
   | (with_reducible exact LeO.none _)
   | (with_reducible refine LeO.ite ?_ ?_)
   | (with_reducible refine LeO.bind ?_ (fun _ => ?_))
   | exact ih0 _ _ _ _ _
   | exact ih1 _ _ _ _ _ _ _ _ _ _
   | exact ih2 _ _ _ _ _ _ _ _ _ _ _ _ _
   | exact ih3 _ _ _ _ _ _ _ _ _ _ _ _
   | exact gafferlaw15_most.mono _
   | exact gafferlaw15_settled.mono _
   | exact quorum_Most.mono _ _ _
   | exact quorum_Settled.mono _ _ _ _ _
   | exact LeO.none _
   | refine LeO.ite ?_ ?_
   | refine LeO.bind ?_ (fun _ => ?_)
  ·intro y0 y1 y2 y3 y4 y5 y6 y7 y8 y9
   unfold gafferlaw15_QuorumHas.l0
   repeat' first
   | (with_reducible exact ih0 _ _ _ _ _)
   | (with_reducible exact ih1 _ _ _ _ _ _ _ _ _ _)
   | (with_reducible exact ih2 _ _ _ _ _ _ _ _ _ _ _ _ _)
   | (with_reducible exact ih3 _ _ _ _ _ _ _ _ _ _ _ _)
   | (with_reducible exact gafferlaw15_most.mono _)
   | (with_reducible exact gafferlaw15_settled.mono _)
   | (with_reducible exact quorum_Most.mono _ _ _)
   | (with_reducible exact quorum_Settled.mono _ _ _ _ _)
   | (with_reducible exact LeO.refl _)
   | (with_reducible exact LeO.none _)
   | (with_reducible refine LeO.ite ?_ ?_)
   | (with_reducible refine LeO.bind ?_ (fun _ => ?_))
   | exact ih0 _ _ _ _ _
   | exact ih1 _ _ _ _ _ _ _ _ _ _
   | exact ih2 _ _ _ _ _ _ _ _ _ _ _ _ _
   | exact ih3 _ _ _ _ _ _ _ _ _ _ _ _
   | exact gafferlaw15_most.mono _
   | exact gafferlaw15_settled.mono _
   | exact quorum_Most.mono _ _ _
   | exact quorum_Settled.mono _ _ _ _ _
   | exact LeO.none _
   | refine LeO.ite ?_ ?_
   | refine LeO.bind ?_ (fun _ => ?_)
  ·intro y0 y1 y2 y3 y4 y5 y6 y7 y8 y9 y10 y11 y12
   unfold gafferlaw15_QuorumHas.l1
   repeat' first
   | (with_reducible exact ih0 _ _ _ _ _)
   | (with_reducible exact ih1 _ _ _ _ _ _ _ _ _ _)
   | (with_reducible exact ih2 _ _ _ _ _ _ _ _ _ _ _ _ _)
   | (with_reducible exact ih3 _ _ _ _ _ _ _ _ _ _ _ _)
   | (with_reducible exact gafferlaw15_most.mono _)
   | (with_reducible exact gafferlaw15_settled.mono _)
   | (with_reducible exact quorum_Most.mono _ _ _)
   | (with_reducible exact quorum_Settled.mono _ _ _ _ _)
   | (with_reducible exact LeO.refl _)
   | (with_reducible exact LeO.none _)
   | (with_reducible refine LeO.ite ?_ ?_)
   | (with_reducible refine LeO.bind ?_ (fun _ => ?_))
   | exact ih0 _ _ _ _ _
   | exact ih1 _ _ _ _ _ _ _ _ _ _
   | exact ih2 _ _ _ _ _ _ _ _ _ _ _ _ _
   | exact ih3 _ _ _ _ _ _ _ _ _ _ _ _
   | exact gafferlaw15_most.mono _
   | exact gafferlaw15_settled.mono _
   | exact quorum_Most.mono _ _ _
   | exact quorum_Settled.mono _ _ _ _ _
   | exact LeO.none _
   | refine LeO.ite ?_ ?_
   | refine LeO.bind ?_ (fun _ => ?_)
  ·intro y0 y1 y2 y3 y4 y5 y6 y7 y8 y9 y10 y11
   unfold gafferlaw15_QuorumHas.j3
   repeat' first
   | (with_reducible exact ih0 _ _ _ _ _)
   | (with_reducible exact ih1 _ _ _ _ _ _ _ _ _ _)
   | (with_reducible exact ih2 _ _ _ _ _ _ _ _ _ _ _ _ _)
   | (with_reducible exact ih3 _ _ _ _ _ _ _ _ _ _ _ _)
   | (with_reducible exact gafferlaw15_most.mono _)
   | (with_reducible exact gafferlaw15_settled.mono _)
   | (with_reducible exact quorum_Most.mono _ _ _)
   | (with_reducible exact quorum_Settled.mono _ _ _ _ _)
   | (with_reducible exact LeO.refl _)
   | (with_reducible exact LeO.none _)
   | (with_reducible refine LeO.ite ?_ ?_)
   | (with_reducible refine LeO.bind ?_ (fun _ => ?_))
   | exact ih0 _ _ _ _ _
   | exact ih1 _ _ _ _ _ _ _ _ _ _
   | exact ih2 _ _ _ _ _ _ _ _ _ _ _ _ _
   | exact ih3 _ _ _ _ _ _ _ _ _ _ _ _
   | exact gafferlaw15_most.mono _
   | exact gafferlaw15_settled.mono _
   | exact quorum_Most.mono _ _ _
   | exact quorum_Settled.mono _ _ _ _ _
   | exact LeO.none _
   | refine LeO.ite ?_ ?_
   | refine LeO.bind ?_ (fun _ => ?_)
theorem gafferlaw15_QuorumHas.mono : ∀ a0 a1 a2 a3 k, LeO (gafferlaw15_QuorumHas.f k a0 a1 a2 a3) (gafferlaw15_QuorumHas.f (k + 1) a0 a1 a2 a3) := by
 intro a0 a1 a2 a3 k
 obtain ⟨ih0, ih1, ih2, ih3⟩ := gafferlaw15_QuorumHas.mono_l k
 unfold gafferlaw15_QuorumHas.f
 repeat' first
   | (with_reducible exact ih0 _ _ _ _ _)
   | (with_reducible exact ih1 _ _ _ _ _ _ _ _ _ _)
   | (with_reducible exact ih2 _ _ _ _ _ _ _ _ _ _ _ _ _)
   | (with_reducible exact ih3 _ _ _ _ _ _ _ _ _ _ _ _)
   | (with_reducible exact gafferlaw15_most.mono _)
   | (with_reducible exact gafferlaw15_settled.mono _)
   | (with_reducible exact quorum_Most.mono _ _ _)
   | (with_reducible exact quorum_Settled.mono _ _ _ _ _)
   | (with_reducible exact LeO.refl _)
   | (with_reducible exact LeO.none _)
   | (with_reducible refine LeO.ite ?_ ?_)
   | (with_reducible refine LeO.bind ?_ (fun _ => ?_))
   | exact ih0 _ _ _ _ _
   | exact ih1 _ _ _ _ _ _ _ _ _ _
   | exact ih2 _ _ _ _ _ _ _ _ _ _ _ _ _
   | exact ih3 _ _ _ _ _ _ _ _ _ _ _ _
   | exact gafferlaw15_most.mono _
   | exact gafferlaw15_settled.mono _
   | exact quorum_Most.mono _ _ _
   | exact quorum_Settled.mono _ _ _ _ _
   | exact LeO.none _
   | refine LeO.ite ?_ ?_
   | refine LeO.bind ?_ (fun _ => ?_)
set_option maxHeartbeats 80000000 in
set_option maxRecDepth 100000 in
theorem gafferlaw15_QuorumHas.calls (k : Nat) (A0 : Option Addr) (c0 : Nat) (l0 : List Int) (a1 : Int) (a2 : Int) (A3 : Option Addr) (c3 : Nat) (l3 : List (S34)) (r : Bool) (w : World) (hr0 : Kd.C (Kd.int .i64) w A0 l0.length l0) (hc0 : l0.length ≤ c0) (hr3 : Kd.C k34 w A3 l3.length l3) (hc3 : l3.length ≤ c3) (h : gafferlaw15_QuorumHas.f k l0 a1 a2 l3 = some r) (hr : r = true) :
  Calls Try.prog 6 #[.slice A0 l0.length c0, .int .i64 a1, .int .u64 a2, .slice A3 l3.length c3] w fun e w' => e = .returned (.bool r) ∧ Below w.heap.size w w' := by
 have HR0 := Aside0.mk hr0
 have HC0 := Aside0.mk hc0
 clear hr0 hc0
 have HR3 := Aside0.mk hr3
 have HC3 := Aside0.mk hc3
 clear hr3 hc3
 have HB := Aside0.mk (Below.refl w.heap.size w)
 have H : ((gafferlaw15_most.f k).bind fun t216 => (if t216 = true then ((gafferlaw15_settled.f k).bind fun t217 => (gafferlaw15_QuorumHas.j0 k l0 a1 a2 l3 (!t217))) else (gafferlaw15_QuorumHas.j0 k l0 a1 a2 l3 true))) = some r := h
 clear h
 have HC5 := Aside0.mk H
 clear H
 go_enter Try.func6, Try.ntmps6
 go_upto_region 1 with (fail)
 go_cut [21] (fun v21 wc => ∃ (kq : Nat) (x21_4 : Bool), v21 = .bool x21_4 ∧ Aside0 (gafferlaw15_QuorumHas.j0 kq l0 a1 a2 l3 x21_4 = some r) ∧ Aside0 (kq ≤ k) ∧ Aside0 (Below w.heap.size w wc))
 case first =>
  have H := HC5.out
  clear HC5
  replace H := Option.bind_eq_some_iff.mp H
  obtain ⟨t216, A60, H⟩ := H
  replace H : (if t216 = true then ((gafferlaw15_settled.f k).bind fun t217 => (gafferlaw15_QuorumHas.j0 k l0 a1 a2 l3 (!t217))) else (gafferlaw15_QuorumHas.j0 k l0 a1 a2 l3 true)) = some r := H
  have A6 := Aside0.mk A60
  clear A60
  by_cases c7 : t216 = true
  ·subst c7
   have H1 : ((gafferlaw15_settled.f k).bind fun t217 => (gafferlaw15_QuorumHas.j0 k l0 a1 a2 l3 (!t217))) = some r := by rw [if_pos rfl] at H; exact H
   clear H
   have H := H1
   clear H1
   replace H := Option.bind_eq_some_iff.mp H
   obtain ⟨t217, A80, H⟩ := H
   replace H : (gafferlaw15_QuorumHas.j0 k l0 a1 a2 l3 (!t217)) = some r := H
   have A8 := Aside0.mk A80
   clear A80
   have H' := Aside0.mk H
   clear H
   go_wp2_with (first | ((with_reducible refine gate_callee (f := 13) rfl ?_); refine goesL_ (some 16) rfl rfl Try.func13 (by kernel_rfl) rfl #[] rfl (ar_) ?_; (with_reducible refine (gafferlaw15_most.calls k  true _ A6.out).mono ?_); rintro e w9 ⟨rfl, hb⟩; refine ⟨_, rfl, ?_⟩; replace HB := Aside0.mk (below_step (bl_ HB) hb); (try clear hb); (try clear hb2); (try clear hk); (try clear hi)) | (go_at_call 10; (with_reducible refine (gafferlaw15_settled.calls k  t217 _ A8.out).mono ?_); rintro e w10 ⟨rfl, hb⟩; replace HB := Aside0.mk (below_step (bl_ HB) hb); (try clear hb); (try clear hb2); (try clear hk); (try clear hi)))
   go_meet
   case rel => exact ⟨_, (!t217), (by first | rfl | (simp; done) | (simp [*]; done)), H', ⟨by first | omega | exact Nat.le_refl _⟩, ⟨bl_ HB⟩⟩
  ·replace c7 := Bool.eq_false_iff.mpr c7
   subst c7
   have H1 : (gafferlaw15_QuorumHas.j0 k l0 a1 a2 l3 true) = some r := by rw [if_neg (show ¬ (false = true) by decide)] at H; exact H
   clear H
   have H := H1
   clear H1
   have H' := Aside0.mk H
   clear H
   go_wp2_with (first | ((with_reducible refine gate_callee (f := 13) rfl ?_); refine goesL_ (some 16) rfl rfl Try.func13 (by kernel_rfl) rfl #[] rfl (ar_) ?_; (with_reducible refine (gafferlaw15_most.calls k  false _ A6.out).mono ?_); rintro e w11 ⟨rfl, hb⟩; refine ⟨_, rfl, ?_⟩; replace HB := Aside0.mk (below_step (bl_ HB) hb); (try clear hb); (try clear hb2); (try clear hk); (try clear hi)))
   go_meet
   case rel => exact ⟨_, (true), (by first | rfl | (simp; done) | (simp [*]; done)), H', ⟨by first | omega | exact Nat.le_refl _⟩, ⟨bl_ HB⟩⟩
 case rest =>
  clear HC5
  try clear c1
  try clear p2
  try clear c3
  try clear c6
  try clear c7
  obtain ⟨kq, x21_4, rfl, HA, HJ4, HB⟩ := hcut
  cases kq with
  | zero => exact absurd HA.out (by simp [gafferlaw15_QuorumHas.j0])
  | succ kj4 =>
   have H := HA.out
   clear HA
   simp only [gafferlaw15_QuorumHas.j0] at H
   by_cases c12 : x21_4 = true
   ·subst c12
    have H1 : (some false) = some r := by rw [if_pos rfl] at H; exact H
    clear H
    have H := H1
    clear H1
    exact absurd (H.trans (congrArg some hr)) (by simp)
   ·replace c12 := Bool.eq_false_iff.mpr c12
    subst c12
    have H1 : ((quorum_Settled.f kj4 l0 a1 a2 l3).bind fun t218 => ((quorum_Most.f kj4 l0 l0).bind fun t219 => (if t219 = true then (gafferlaw15_QuorumHas.l0 kj4 l0 a1 a2 l3 t218 ([] : List Int) ([] : List Int) l0 (l0.length : Int) 0) else (some (t218 == 0))))) = some r := by rw [if_neg (show ¬ (false = true) by decide)] at H; exact H
    clear H
    have H := H1
    clear H1
    replace H := Option.bind_eq_some_iff.mp H
    obtain ⟨t218, A130, H⟩ := H
    replace H : ((quorum_Most.f kj4 l0 l0).bind fun t219 => (if t219 = true then (gafferlaw15_QuorumHas.l0 kj4 l0 a1 a2 l3 t218 ([] : List Int) ([] : List Int) l0 (l0.length : Int) 0) else (some (t218 == 0)))) = some r := H
    have A13 := Aside0.mk A130
    clear A130
    replace H := Option.bind_eq_some_iff.mp H
    obtain ⟨t219, A140, H⟩ := H
    replace H : (if t219 = true then (gafferlaw15_QuorumHas.l0 kj4 l0 a1 a2 l3 t218 ([] : List Int) ([] : List Int) l0 (l0.length : Int) 0) else (some (t218 == 0))) = some r := H
    have A14 := Aside0.mk A140
    clear A140
    by_cases c15 : t219 = true
    ·subst c15
     have H1 : (gafferlaw15_QuorumHas.l0 kj4 l0 a1 a2 l3 t218 ([] : List Int) ([] : List Int) l0 (l0.length : Int) 0) = some r := by rw [if_pos rfl] at H; exact H
     clear H
     have H := H1
     clear H1
     have H' := Aside0.mk H
     clear H
     go_wp2_with (first | ((with_reducible refine gate_callee (f := 11) rfl ?_); refine goesL_ (some 26) rfl rfl Try.func11 (by kernel_rfl) rfl #[.slice A0 l0.length c0, .int .i64 a1, .int .u64 a2, .slice A3 l3.length c3] rfl (ar_) ?_; (with_reducible refine (quorum_Settled.calls kj4 _ _ l0 a1 a2 _ _ l3 t218 _ ?side1 ?side2 ?side3 ?side4 A13.out).mono ?_); (case side1 => repeat (first | exact (Kd.C_below HR0.out HB.out) | (with_reducible refine Kd.C_alloc ?_ _) | (with_reducible refine Kd.C_drewN ?_ _) | (with_reducible refine Kd.C_drew ?_))); (case side2 => exact HC0.out); (case side3 => repeat (first | exact (Kd.C_below HR3.out HB.out) | (with_reducible refine Kd.C_alloc ?_ _) | (with_reducible refine Kd.C_drewN ?_ _) | (with_reducible refine Kd.C_drew ?_))); (case side4 => exact HC3.out); rintro e w16 ⟨rfl, hb⟩; refine ⟨_, rfl, ?_⟩; replace HB := Aside0.mk (below_step (bl_ HB) hb); (try clear hb); (try clear hb2); (try clear hk); (try clear hi)) | ((with_reducible refine gate_callee (f := 14) rfl ?_); refine goesL_ (some 29) rfl rfl Try.func14 (by kernel_rfl) rfl #[.slice A0 l0.length c0, .slice A0 l0.length c0] rfl (ar_) ?_; (with_reducible refine (quorum_Most.calls kj4 _ _ l0 _ _ l0 true _ ?side1 ?side2 ?side3 ?side4 A14.out).mono ?_); (case side1 => repeat (first | exact (Kd.C_below HR0.out HB.out) | (with_reducible refine Kd.C_alloc ?_ _) | (with_reducible refine Kd.C_drewN ?_ _) | (with_reducible refine Kd.C_drew ?_))); (case side2 => exact HC0.out); (case side3 => repeat (first | exact (Kd.C_below HR0.out HB.out) | (with_reducible refine Kd.C_alloc ?_ _) | (with_reducible refine Kd.C_drewN ?_ _) | (with_reducible refine Kd.C_drew ?_))); (case side4 => exact HC0.out); rintro e w17 ⟨rfl, hb⟩; refine ⟨_, rfl, ?_⟩; replace HB := Aside0.mk (below_step (bl_ HB) hb); (try clear hb); (try clear hb2); (try clear hk); (try clear hi)))
     go_loopg [10, 11, 35] kj4 (fun kq v10 v11 v35 w' => ∃ (x10_2 : List Int) (x11_2 : List Int) (x35_2 : Int), v35 = .int .i64 x35_2 ∧ Aside0 (gafferlaw15_QuorumHas.l0 kq l0 a1 a2 l3 t218 x10_2 x11_2 l0 (l0.length : Int) x35_2 = some r) ∧ Aside0 (kq ≤ kj4) ∧ Aside0 (Kd.R (Kd.int .i64) 3 w' w.heap.size (fun k_ => some k_ ≠ (v11 : Value).ownBlock) v10 x10_2) ∧ Aside0 (Kd.R (Kd.int .i64) 3 w' w.heap.size (fun k_ => some k_ ≠ (v10 : Value).ownBlock) v11 x11_2) ∧ Aside0 (Below w.heap.size w w'))
     case atStart => exact ⟨(([] : List Int)), (([] : List Int)), (0), (by first | rfl | (simp; done) | (simp [*]; done)), H', ⟨Nat.le_refl _⟩, ⟨by first | exact Kd.R_nil _ _ _ _ _ | exact Kd.N_nil _ _ _ _ _ | exact Kd.V_nil _ _ _ _ _ | exact Kd.Q_nil _ _ _ _ _ | exact Kd.S_nil _ _ _ _ _⟩, ⟨by first | exact Kd.R_nil _ _ _ _ _ | exact Kd.N_nil _ _ _ _ _ | exact Kd.V_nil _ _ _ _ _ | exact Kd.Q_nil _ _ _ _ _ | exact Kd.S_nil _ _ _ _ _⟩, ⟨bl_ HB⟩⟩
     case round =>
      clear H'
      try clear c1
      try clear p2
      try clear c3
      try clear c6
      try clear c7
      try clear c11
      try clear c12
      try clear c13
      try clear c14
      try clear c15
      try clear p2
      obtain ⟨x10_2, x11_2, x35_2, rfl, HA, HK2, HO_10, HO_11, HB⟩ := hrel
      cases gk with
      | zero => exact absurd HA.out (by simp [gafferlaw15_QuorumHas.l0])
      | succ k2 =>
       have H := HA.out
       clear HA
       simp only [gafferlaw15_QuorumHas.l0] at H
       by_cases c18 : x35_2 < (l0.length : Int)
       ·rw [if_pos c18] at H
        have c18b0 : decide (x35_2 < (l0.length : Int)) = true := decide_eq_true c18
        clear c18
        by_cases c19 : 0 ≤ x35_2
        ·rw [if_pos c19] at H
         have c19b0 : decide (0 ≤ x35_2) = true := decide_eq_true c19
         clear c19
         by_cases c20 : x35_2 < (l0.length : Int)
         ·rw [if_pos c20] at H
          have c20b0 : decide (x35_2 < (l0.length : Int)) = true := decide_eq_true c20
          clear c20
          have H' := Aside0.mk H
          clear H
          have p222 : 0 ≤ (x35_2 : Int) := of_decide_eq_true (by first | (with_reducible assumption) | assumption)
          have q222 : x35_2 < (l0.length : Int) := of_decide_eq_true (by first | (with_reducible assumption) | assumption)
          obtain ⟨ad222, e222, hx222_0⟩ := Kd.at_int HR0.out x35_2 p222 q222
          cases e222
          replace hx222_0 := (HB.out.cell (World.block_lt_of_cell? w _ hx222_0)).trans hx222_0
          replace p222 := eq_true p222
          replace q222 := eq_true q222
          go_wp2
          go_loopg [14, 15] k2 (fun kq v14 v15 w' => ∃ (x14_3 : Int) (x15_3 : Int), v14 = .int .u64 x14_3 ∧ v15 = .int .i64 x15_3 ∧ Aside0 (gafferlaw15_QuorumHas.l1 kq l0 a1 a2 l3 t218 x10_2 x11_2 (rd l0 x35_2) x14_3 x15_3 l0 (l0.length : Int) x35_2 = some r) ∧ Aside0 (kq ≤ k2) ∧ Aside0 (Kd.R (Kd.int .i64) 3 w' w.heap.size (fun k_ => some k_ ≠ (u11 : Value).ownBlock) u10 x10_2) ∧ Aside0 (Kd.R (Kd.int .i64) 3 w' w.heap.size (fun k_ => some k_ ≠ (u10 : Value).ownBlock) u11 x11_2) ∧ Aside0 (Below w.heap.size w w'))
          case atStart => exact ⟨(0), (wrap64 ((l3.length : Int) - 1)), (by first | rfl | (simp; done) | (simp [*]; done)), (by first | rfl | (simp; done) | (simp [*]; done)), H', ⟨Nat.le_refl _⟩, ⟨by (with_reducible repeat (first | apply Kd.R_alloc | apply Kd.R_drewN | apply Kd.R_drew)); exact HO_10.out⟩, ⟨by (with_reducible repeat (first | apply Kd.R_alloc | apply Kd.R_drewN | apply Kd.R_drew)); exact HO_11.out⟩, ⟨bl_ HB⟩⟩
          case round =>
           clear H'
           try clear c1
           try clear c2
           try clear p2
           try clear q2
           try clear hx2
           try clear c3
           try clear c6
           try clear p6
           try clear c7
           try clear c11
           try clear c12
           try clear c13
           try clear c14
           try clear c15
           try clear c18
           try clear c18b0
           try clear c19
           try clear c19b0
           try clear c20
           try clear c20b0
           try clear hx222_0
           try clear p2
           try clear p222
           try clear q222
           obtain ⟨x14_3, x15_3, rfl, rfl, HA, HK3, HO_10, HO_11, HB⟩ := hrel
           cases gk with
           | zero => exact absurd HA.out (by simp [gafferlaw15_QuorumHas.l1])
           | succ k3 =>
            have H := HA.out
            clear HA
            simp only [gafferlaw15_QuorumHas.l1] at H
            by_cases c21 : x15_3 ≥ 0
            ·rw [if_pos c21] at H
             have c21b0 : decide (0 ≤ x15_3) = true := decide_eq_true c21
             clear c21
             by_cases c22 : 0 ≤ x15_3
             ·rw [if_pos c22] at H
              have c22b0 : decide (0 ≤ x15_3) = true := decide_eq_true c22
              clear c22
              by_cases c23 : x15_3 < (l3.length : Int)
              ·rw [if_pos c23] at H
               have c23b0 : decide (x15_3 < (l3.length : Int)) = true := decide_eq_true c23
               clear c23
               by_cases c24 : ((rd_T34 l3 x15_3).f0) = (rd l0 x35_2)
               ·rw [if_pos c24] at H
                have c24b0 : (((rd_T34 l3 x15_3).f0) == (rd l0 x35_2)) = true := beq_iff_eq.mpr c24
                have c24b1 : (((rd_T34 l3 x15_3).f0) != (rd l0 x35_2)) = false := bne_eq_false_iff_eq.mpr c24
                clear c24
                have H' := Aside0.mk H
                clear H
                have p223 : 0 ≤ (x15_3 : Int) := of_decide_eq_true (by first | (with_reducible assumption) | assumption)
                have q223 : x15_3 < (l3.length : Int) := of_decide_eq_true (by first | (with_reducible assumption) | assumption)
                obtain ⟨ad223, e223, hx223_0, hx223_1, hx223_2⟩ := at_T34 HR3.out x15_3 p223 q223
                cases e223
                replace hx223_0 := (HB.out.cell (World.block_lt_of_cell? w _ hx223_0)).trans hx223_0
                replace hx223_1 := (HB.out.cell (World.block_lt_of_cell? w _ hx223_1)).trans hx223_1
                replace hx223_2 := (HB.out.cell (World.block_lt_of_cell? w _ hx223_2)).trans hx223_2
                replace p223 := eq_true p223
                replace q223 := eq_true q223
                have p224 : 0 ≤ (x15_3 : Int) := of_decide_eq_true (by first | (with_reducible assumption) | assumption)
                have q224 : x15_3 < (l3.length : Int) := of_decide_eq_true (by first | (with_reducible assumption) | assumption)
                obtain ⟨ad224, e224, hx224_0, hx224_1, hx224_2⟩ := at_T34 HR3.out x15_3 p224 q224
                obtain rfl : ad223 = ad224 := (by injection e224)
                replace hx224_0 := (HB.out.cell (World.block_lt_of_cell? w _ hx224_0)).trans hx224_0
                replace hx224_1 := (HB.out.cell (World.block_lt_of_cell? w _ hx224_1)).trans hx224_1
                replace hx224_2 := (HB.out.cell (World.block_lt_of_cell? w _ hx224_2)).trans hx224_2
                replace p224 := eq_true p224
                replace q224 := eq_true q224
                go_wp2
                go_roundg k3
                case measure => have := HJ4.out; have := HK2.out; have := HK3.out; omega
                case rel => exact ⟨((rd_T34 l3 x15_3).f2), (wrap64 (x15_3 - 1)), (by first | rfl | (simp; done) | (simp [*]; done)), (by first | rfl | (simp; done) | (simp [*]; done)), H', ⟨by have := HJ4.out; have := HK2.out; have := HK3.out; omega⟩, ⟨by (with_reducible repeat (first | apply Kd.R_alloc | apply Kd.R_drewN | apply Kd.R_drew)); exact HO_10.out⟩, ⟨by (with_reducible repeat (first | apply Kd.R_alloc | apply Kd.R_drewN | apply Kd.R_drew)); exact HO_11.out⟩, ⟨bl_ HB⟩⟩
               ·rw [if_neg c24] at H
                have c24b0 : (((rd_T34 l3 x15_3).f0) == (rd l0 x35_2)) = false := beq_eq_false_iff_ne.mpr c24
                have c24b1 : (((rd_T34 l3 x15_3).f0) != (rd l0 x35_2)) = true := bne_iff_ne.mpr c24
                have H' := Aside0.mk H
                clear H
                have p223 : 0 ≤ (x15_3 : Int) := of_decide_eq_true (by first | (with_reducible assumption) | assumption)
                have q223 : x15_3 < (l3.length : Int) := of_decide_eq_true (by first | (with_reducible assumption) | assumption)
                obtain ⟨ad223, e223, hx223_0, hx223_1, hx223_2⟩ := at_T34 HR3.out x15_3 p223 q223
                cases e223
                replace hx223_0 := (HB.out.cell (World.block_lt_of_cell? w _ hx223_0)).trans hx223_0
                replace hx223_1 := (HB.out.cell (World.block_lt_of_cell? w _ hx223_1)).trans hx223_1
                replace hx223_2 := (HB.out.cell (World.block_lt_of_cell? w _ hx223_2)).trans hx223_2
                replace p223 := eq_true p223
                replace q223 := eq_true q223
                go_wp2
                go_roundg k3
                case measure => have := HJ4.out; have := HK2.out; have := HK3.out; omega
                case rel => exact ⟨(x14_3), (wrap64 (x15_3 - 1)), (by first | rfl | (simp; done) | (simp [*]; done)), (by first | rfl | (simp; done) | (simp [*]; done)), H', ⟨by have := HJ4.out; have := HK2.out; have := HK3.out; omega⟩, ⟨by (with_reducible repeat (first | apply Kd.R_alloc | apply Kd.R_drewN | apply Kd.R_drew)); exact HO_10.out⟩, ⟨by (with_reducible repeat (first | apply Kd.R_alloc | apply Kd.R_drewN | apply Kd.R_drew)); exact HO_11.out⟩, ⟨bl_ HB⟩⟩
              ·rw [if_neg c23] at H
               exact absurd H (by simp)
             ·rw [if_neg c22] at H
              exact absurd H (by simp)
            ·rw [if_neg c21] at H
             have c21b0 : decide (0 ≤ x15_3) = false := decide_eq_false c21
             clear c21
             have HC25 := Aside0.mk H
             clear H
             go_upto_if 60 with (fail)
             go_cut [14] (fun v14 wc => ∃ (kq : Nat) (x14_24 : Int), v14 = .int .u64 x14_24 ∧ Aside0 (gafferlaw15_QuorumHas.j3 kq l0 a1 a2 l3 t218 x10_2 x11_2 (rd l0 x35_2) x14_24 l0 (l0.length : Int) x35_2 = some r) ∧ Aside0 (kq ≤ k3) ∧ Aside0 (Kd.R (Kd.int .i64) 3 wc w.heap.size (fun k_ => some k_ ≠ (u11 : Value).ownBlock) u10 x10_2) ∧ Aside0 (Kd.R (Kd.int .i64) 3 wc w.heap.size (fun k_ => some k_ ≠ (u10 : Value).ownBlock) u11 x11_2) ∧ Aside0 (Below w.heap.size w wc))
             case first =>
              have H := HC25.out
              clear HC25
              by_cases c26 : (rd l0 x35_2) = a1
              ·rw [if_pos c26] at H
               have c26b0 : ((rd l0 x35_2) == a1) = true := beq_iff_eq.mpr c26
               have c26b1 : ((rd l0 x35_2) != a1) = false := bne_eq_false_iff_eq.mpr c26
               clear c26
               (first | rw [c26b0] | (simp only [i64_w, i32_w]; rw [c26b0]) | skip)
               have H' := Aside0.mk H
               clear H
               go_wp2
               go_meet
               case rel => exact ⟨_, (a2), (by first | rfl | (simp; done) | (simp [*]; done)), H', ⟨by have := HJ4.out; have := HK2.out; have := HK3.out; first | omega | exact Nat.le_refl _⟩, ⟨by (with_reducible repeat (first | apply Kd.R_alloc | apply Kd.R_drewN | apply Kd.R_drew)); exact HO_10.out⟩, ⟨by (with_reducible repeat (first | apply Kd.R_alloc | apply Kd.R_drewN | apply Kd.R_drew)); exact HO_11.out⟩, ⟨bl_ HB⟩⟩
              ·rw [if_neg c26] at H
               have c26b0 : ((rd l0 x35_2) == a1) = false := beq_eq_false_iff_ne.mpr c26
               have c26b1 : ((rd l0 x35_2) != a1) = true := bne_iff_ne.mpr c26
               (first | rw [c26b0] | (simp only [i64_w, i32_w]; rw [c26b0]) | skip)
               have H' := Aside0.mk H
               clear H
               go_wp2
               go_meet
               case rel => exact ⟨_, (x14_3), (by first | rfl | (simp; done) | (simp [*]; done)), H', ⟨by have := HJ4.out; have := HK2.out; have := HK3.out; first | omega | exact Nat.le_refl _⟩, ⟨by (with_reducible repeat (first | apply Kd.R_alloc | apply Kd.R_drewN | apply Kd.R_drew)); exact HO_10.out⟩, ⟨by (with_reducible repeat (first | apply Kd.R_alloc | apply Kd.R_drewN | apply Kd.R_drew)); exact HO_11.out⟩, ⟨bl_ HB⟩⟩
             case rest =>
              clear HC25
              try clear c1
              try clear c2
              try clear p2
              try clear q2
              try clear hx2
              try clear c3
              try clear c6
              try clear p6
              try clear c7
              try clear c11
              try clear c12
              try clear c13
              try clear c14
              try clear c15
              try clear c18
              try clear c18b0
              try clear c19
              try clear c19b0
              try clear c20
              try clear c20b0
              try clear c21
              try clear c21b0
              try clear c22
              try clear c22b0
              try clear p22
              try clear q22
              try clear hx22
              try clear c23
              try clear c23b0
              try clear c24
              try clear c24b0
              try clear c24b1
              try clear c26
              try clear c26b0
              try clear c26b1
              try clear hx222_0
              try clear hx223_0
              try clear hx223_1
              try clear hx223_2
              try clear hx224_0
              try clear hx224_1
              try clear hx224_2
              try clear p2
              try clear p222
              try clear p223
              try clear p224
              try clear p6
              try clear q2
              try clear q222
              try clear q223
              try clear q224
              obtain ⟨kq, x14_24, rfl, HA, HJ24, HO_10, HO_11, HB⟩ := hcut
              cases kq with
              | zero => exact absurd HA.out (by simp [gafferlaw15_QuorumHas.j3])
              | succ kj24 =>
               have H := HA.out
               clear HA
               simp only [gafferlaw15_QuorumHas.j3] at H
               by_cases c27 : x14_24 ≥ t218
               ·rw [if_pos c27] at H
                have c27b0 : decide (t218 ≤ x14_24) = true := decide_eq_true c27
                clear c27
                by_cases c28 : x10_2.length < 17592186044416
                ·rw [if_pos c28] at H
                 have LMc28 := Aside0.mk c28
                 clear c28
                 obtain ⟨y225, hy225⟩ : ∃ y_ : List Int, y_ = (x10_2 ++ [(rd l0 x35_2)]) := ⟨_, rfl⟩
                 replace H : (if x14_24 > t218 then (if x11_2.length < 17592186044416 then (gafferlaw15_QuorumHas.l0 kj24 l0 a1 a2 l3 t218 y225 (x11_2 ++ [(rd l0 x35_2)]) l0 (l0.length : Int) (wrap64 (x35_2 + 1))) else (none)) else (gafferlaw15_QuorumHas.l0 kj24 l0 a1 a2 l3 t218 y225 x11_2 l0 (l0.length : Int) (wrap64 (x35_2 + 1)))) = some r := by first | (rw [hy225]; with_reducible exact H) | (have H2_ := (Option.bind_some _ _).symm.trans H; rw [hy225]; with_reducible exact H2_) | (have H2_ := (Option.bind_some _ _).symm.trans H; with_reducible exact H2_) | with_reducible exact H | (rw [hy225]; exact H) | exact H
                 have Ny225 := Aside0.mk hy225
                 clear hy225
                 by_cases c29 : x14_24 > t218
                 ·rw [if_pos c29] at H
                  have c29b0 : decide (t218 < x14_24) = true := decide_eq_true c29
                  clear c29
                  by_cases c30 : x11_2.length < 17592186044416
                  ·rw [if_pos c30] at H
                   have LMc30 := Aside0.mk c30
                   clear c30
                   obtain ⟨y228, hy228⟩ : ∃ y_ : List Int, y_ = (x11_2 ++ [(rd l0 x35_2)]) := ⟨_, rfl⟩
                   replace H : (gafferlaw15_QuorumHas.l0 kj24 l0 a1 a2 l3 t218 y225 y228 l0 (l0.length : Int) (wrap64 (x35_2 + 1))) = some r := by first | (rw [hy228]; with_reducible exact H) | (have H2_ := (Option.bind_some _ _).symm.trans H; rw [hy228]; with_reducible exact H2_) | (have H2_ := (Option.bind_some _ _).symm.trans H; with_reducible exact H2_) | with_reducible exact H | (rw [hy228]; exact H) | exact H
                   have Ny228 := Aside0.mk hy228
                   clear hy228
                   have H' := Aside0.mk H
                   clear H
                   go_wp2_with (first | ((with_reducible refine gate_builtin (b := .append) (xs := #[.tmp 65, .tmp 67]) rfl ?_); at_builtin; refine Kd.R_append (Kd.int .i64) (w0 := w) w.heap.size rfl (.tmp 65) (.tmp 67) 22 3 (.int .i64 0) 8 rfl Try.underlying22 info3 rfl (by decide) (by omega) u10 x10_2 (rd l0 x35_2) [.int .i64 (rd l0 x35_2)] (fun k_ => some k_ ≠ (u11 : Value).ownBlock) (fun _ => False) rfl rfl ?aP (fun _ hk => hk.elim) ?aF ?aO ?aB ?aS ?aL ?_; (case aP => exact rfl); (case aB => exact (bl_ HB)); (case aF => exact (fun k_ hk => Kd.fresh' (Kd.R_lt (by (with_reducible repeat (first | apply Kd.R_alloc | apply Kd.R_drewN | apply Kd.R_drew)); exact HO_11.out)) k_ hk)); (case aO => exact (by (with_reducible repeat (first | apply Kd.R_alloc | apply Kd.R_drewN | apply Kd.R_drew)); exact HO_10.out)); (case aS => exact (below_size (bl_ HB))); (case aL => have := LMc28.out; omega); intro v226 w31 ho hb hg hat; rw [← Ny225.out] at ho; replace HO_11 := Aside0.mk (Kd.R_after (ok := (fun _ => True)) (by (with_reducible repeat (first | apply Kd.R_alloc | apply Kd.R_drewN | apply Kd.R_drew)); exact Kd.R_mono HO_11.out (fun _ hk => ⟨trivial, hk⟩)) hg hat); replace HB := Aside0.mk (hb); have HO227 := Aside0.mk (ho); clear HO_10; clear ho hb hg hat) | ((with_reducible refine gate_builtin (b := .append) (xs := #[.tmp 72, .tmp 74]) rfl ?_); at_builtin; refine Kd.R_append (Kd.int .i64) (w0 := w) w.heap.size rfl (.tmp 72) (.tmp 74) 22 3 (.int .i64 0) 8 rfl Try.underlying22 info3 rfl (by decide) (by omega) u11 x11_2 (rd l0 x35_2) [.int .i64 (rd l0 x35_2)] (fun k_ => some k_ ≠ (v226 : Value).ownBlock) (fun _ => False) rfl rfl ?aP (fun _ hk => hk.elim) ?aF ?aO ?aB ?aS ?aL ?_; (case aP => exact rfl); (case aB => exact (bl_ HB)); (case aF => exact (fun k_ hk => Kd.fresh' (Kd.R_lt (by (with_reducible repeat (first | apply Kd.R_alloc | apply Kd.R_drewN | apply Kd.R_drew)); exact HO227.out)) k_ hk)); (case aO => exact (by (with_reducible repeat (first | apply Kd.R_alloc | apply Kd.R_drewN | apply Kd.R_drew)); exact Kd.R_mono HO_11.out (fun _ hk => hk.2))); (case aS => exact (below_size (bl_ HB))); (case aL => have := LMc30.out; omega); intro v229 w32 ho hb hg hat; rw [← Ny228.out] at ho; replace HO227 := Aside0.mk (Kd.R_after (ok := (fun _ => True)) (by (with_reducible repeat (first | apply Kd.R_alloc | apply Kd.R_drewN | apply Kd.R_drew)); exact Kd.R_mono HO227.out (fun _ hk => ⟨trivial, hk⟩)) hg hat); replace HB := Aside0.mk (hb); have HO230 := Aside0.mk (ho); clear HO_11; clear ho hb hg hat))
                   go_roundg kj24
                   case measure => have := HJ4.out; have := HK2.out; have := HK3.out; have := HJ24.out; omega
                   case rel => exact ⟨(y225), (y228), (wrap64 (x35_2 + 1)), (by first | rfl | (simp; done) | (simp [*]; done)), H', ⟨by have := HJ4.out; have := HK2.out; have := HK3.out; have := HJ24.out; omega⟩, ⟨by (with_reducible repeat (first | apply Kd.R_alloc | apply Kd.R_drewN | apply Kd.R_drew)); exact Kd.R_mono HO227.out (fun _ hk => hk.2)⟩, ⟨by (with_reducible repeat (first | apply Kd.R_alloc | apply Kd.R_drewN | apply Kd.R_drew)); exact HO230.out⟩, ⟨bl_ HB⟩⟩
                  ·rw [if_neg c30] at H
                   exact absurd H (by simp)
                 ·rw [if_neg c29] at H
                  have c29b0 : decide (t218 < x14_24) = false := decide_eq_false c29
                  clear c29
                  have H' := Aside0.mk H
                  clear H
                  go_wp2_with (first | ((with_reducible refine gate_builtin (b := .append) (xs := #[.tmp 65, .tmp 67]) rfl ?_); at_builtin; refine Kd.R_append (Kd.int .i64) (w0 := w) w.heap.size rfl (.tmp 65) (.tmp 67) 22 3 (.int .i64 0) 8 rfl Try.underlying22 info3 rfl (by decide) (by omega) u10 x10_2 (rd l0 x35_2) [.int .i64 (rd l0 x35_2)] (fun k_ => some k_ ≠ (u11 : Value).ownBlock) (fun _ => False) rfl rfl ?aP (fun _ hk => hk.elim) ?aF ?aO ?aB ?aS ?aL ?_; (case aP => exact rfl); (case aB => exact (bl_ HB)); (case aF => exact (fun k_ hk => Kd.fresh' (Kd.R_lt (by (with_reducible repeat (first | apply Kd.R_alloc | apply Kd.R_drewN | apply Kd.R_drew)); exact HO_11.out)) k_ hk)); (case aO => exact (by (with_reducible repeat (first | apply Kd.R_alloc | apply Kd.R_drewN | apply Kd.R_drew)); exact HO_10.out)); (case aS => exact (below_size (bl_ HB))); (case aL => have := LMc28.out; omega); intro v226 w33 ho hb hg hat; rw [← Ny225.out] at ho; replace HO_11 := Aside0.mk (Kd.R_after (ok := (fun _ => True)) (by (with_reducible repeat (first | apply Kd.R_alloc | apply Kd.R_drewN | apply Kd.R_drew)); exact Kd.R_mono HO_11.out (fun _ hk => ⟨trivial, hk⟩)) hg hat); replace HB := Aside0.mk (hb); have HO227 := Aside0.mk (ho); clear HO_10; clear ho hb hg hat))
                  go_roundg kj24
                  case measure => have := HJ4.out; have := HK2.out; have := HK3.out; have := HJ24.out; omega
                  case rel => exact ⟨(y225), (x11_2), (wrap64 (x35_2 + 1)), (by first | rfl | (simp; done) | (simp [*]; done)), H', ⟨by have := HJ4.out; have := HK2.out; have := HK3.out; have := HJ24.out; omega⟩, ⟨by (with_reducible repeat (first | apply Kd.R_alloc | apply Kd.R_drewN | apply Kd.R_drew)); exact HO227.out⟩, ⟨by (with_reducible repeat (first | apply Kd.R_alloc | apply Kd.R_drewN | apply Kd.R_drew)); exact Kd.R_mono HO_11.out (fun _ hk => hk.2)⟩, ⟨bl_ HB⟩⟩
                ·rw [if_neg c28] at H
                 exact absurd H (by simp)
               ·rw [if_neg c27] at H
                have c27b0 : decide (t218 ≤ x14_24) = false := decide_eq_false c27
                clear c27
                by_cases c34 : x14_24 > t218
                ·rw [if_pos c34] at H
                 have c34b0 : decide (t218 < x14_24) = true := decide_eq_true c34
                 clear c34
                 by_cases c35 : x11_2.length < 17592186044416
                 ·rw [if_pos c35] at H
                  have LMc35 := Aside0.mk c35
                  clear c35
                  obtain ⟨y231, hy231⟩ : ∃ y_ : List Int, y_ = (x11_2 ++ [(rd l0 x35_2)]) := ⟨_, rfl⟩
                  replace H : (gafferlaw15_QuorumHas.l0 kj24 l0 a1 a2 l3 t218 x10_2 y231 l0 (l0.length : Int) (wrap64 (x35_2 + 1))) = some r := by first | (rw [hy231]; with_reducible exact H) | (have H2_ := (Option.bind_some _ _).symm.trans H; rw [hy231]; with_reducible exact H2_) | (have H2_ := (Option.bind_some _ _).symm.trans H; with_reducible exact H2_) | with_reducible exact H | (rw [hy231]; exact H) | exact H
                  have Ny231 := Aside0.mk hy231
                  clear hy231
                  have H' := Aside0.mk H
                  clear H
                  go_wp2_with (first | ((with_reducible refine gate_builtin (b := .append) (xs := #[.tmp 72, .tmp 74]) rfl ?_); at_builtin; refine Kd.R_append (Kd.int .i64) (w0 := w) w.heap.size rfl (.tmp 72) (.tmp 74) 22 3 (.int .i64 0) 8 rfl Try.underlying22 info3 rfl (by decide) (by omega) u11 x11_2 (rd l0 x35_2) [.int .i64 (rd l0 x35_2)] (fun k_ => some k_ ≠ (u10 : Value).ownBlock) (fun _ => False) rfl rfl ?aP (fun _ hk => hk.elim) ?aF ?aO ?aB ?aS ?aL ?_; (case aP => exact rfl); (case aB => exact (bl_ HB)); (case aF => exact (fun k_ hk => Kd.fresh' (Kd.R_lt (by (with_reducible repeat (first | apply Kd.R_alloc | apply Kd.R_drewN | apply Kd.R_drew)); exact HO_10.out)) k_ hk)); (case aO => exact (by (with_reducible repeat (first | apply Kd.R_alloc | apply Kd.R_drewN | apply Kd.R_drew)); exact HO_11.out)); (case aS => exact (below_size (bl_ HB))); (case aL => have := LMc35.out; omega); intro v232 w36 ho hb hg hat; rw [← Ny231.out] at ho; replace HO_10 := Aside0.mk (Kd.R_after (ok := (fun _ => True)) (by (with_reducible repeat (first | apply Kd.R_alloc | apply Kd.R_drewN | apply Kd.R_drew)); exact Kd.R_mono HO_10.out (fun _ hk => ⟨trivial, hk⟩)) hg hat); replace HB := Aside0.mk (hb); have HO233 := Aside0.mk (ho); clear HO_11; clear ho hb hg hat))
                  go_roundg kj24
                  case measure => have := HJ4.out; have := HK2.out; have := HK3.out; have := HJ24.out; omega
                  case rel => exact ⟨(x10_2), (y231), (wrap64 (x35_2 + 1)), (by first | rfl | (simp; done) | (simp [*]; done)), H', ⟨by have := HJ4.out; have := HK2.out; have := HK3.out; have := HJ24.out; omega⟩, ⟨by (with_reducible repeat (first | apply Kd.R_alloc | apply Kd.R_drewN | apply Kd.R_drew)); exact Kd.R_mono HO_10.out (fun _ hk => hk.2)⟩, ⟨by (with_reducible repeat (first | apply Kd.R_alloc | apply Kd.R_drewN | apply Kd.R_drew)); exact HO233.out⟩, ⟨bl_ HB⟩⟩
                 ·rw [if_neg c35] at H
                  exact absurd H (by simp)
                ·rw [if_neg c34] at H
                 have c34b0 : decide (t218 < x14_24) = false := decide_eq_false c34
                 clear c34
                 have H' := Aside0.mk H
                 clear H
                 go_wp2
                 go_roundg kj24
                 case measure => have := HJ4.out; have := HK2.out; have := HK3.out; have := HJ24.out; omega
                 case rel => exact ⟨(x10_2), (x11_2), (wrap64 (x35_2 + 1)), (by first | rfl | (simp; done) | (simp [*]; done)), H', ⟨by have := HJ4.out; have := HK2.out; have := HK3.out; have := HJ24.out; omega⟩, ⟨by (with_reducible repeat (first | apply Kd.R_alloc | apply Kd.R_drewN | apply Kd.R_drew)); exact HO_10.out⟩, ⟨by (with_reducible repeat (first | apply Kd.R_alloc | apply Kd.R_drewN | apply Kd.R_drew)); exact HO_11.out⟩, ⟨bl_ HB⟩⟩
         ·rw [if_neg c20] at H
          exact absurd H (by simp)
        ·rw [if_neg c19] at H
         exact absurd H (by simp)
       ·rw [if_neg c18] at H
        have c18b0 : decide (x35_2 < (l0.length : Int)) = false := decide_eq_false c18
        clear c18
        replace H := Option.bind_eq_some_iff.mp H
        obtain ⟨t220, A370, H⟩ := H
        replace H : (if t220 = true then ((quorum_Most.f k2 l0 x11_2).bind fun t221 => (some (!t221))) else (some false)) = some r := H
        have A37 := Aside0.mk A370
        clear A370
        by_cases c38 : t220 = true
        ·subst c38
         have H1 : ((quorum_Most.f k2 l0 x11_2).bind fun t221 => (some (!t221))) = some r := by rw [if_pos rfl] at H; exact H
         clear H
         have H := H1
         clear H1
         replace H := Option.bind_eq_some_iff.mp H
         obtain ⟨t221, A390, H⟩ := H
         replace H : (some (!t221)) = some r := H
         have A39 := Aside0.mk A390
         clear A390
         obtain rfl := Option.some.inj H
         obtain ⟨Ao40, co40, eo40⟩ := Kd.R_slice HO_10.out
         subst eo40
         go_wp2_with (first | ((with_reducible refine gate_callee (f := 14) rfl ?_); refine goesL_ (some 79) rfl rfl Try.func14 (by kernel_rfl) rfl #[.slice A0 l0.length c0, .slice Ao40 x10_2.length co40] rfl (ar_) ?_; (with_reducible refine (quorum_Most.calls k2 _ _ l0 _ _ x10_2 true _ ?side1 ?side2 ?side3 ?side4 A37.out).mono ?_); (case side1 => repeat (first | exact (Kd.C_below HR0.out HB.out) | (with_reducible refine Kd.C_alloc ?_ _) | (with_reducible refine Kd.C_drewN ?_ _) | (with_reducible refine Kd.C_drew ?_))); (case side2 => exact HC0.out); (case side3 => repeat (first | exact (Kd.R_reads' HO_10.out).2.2 | (with_reducible refine Kd.C_alloc ?_ _) | (with_reducible refine Kd.C_drewN ?_ _) | (with_reducible refine Kd.C_drew ?_))); (case side4 => exact (Kd.R_reads' HO_10.out).2.1); rintro e w41 ⟨rfl, hb⟩; refine ⟨_, rfl, ?_⟩; replace HO_10 := Aside0.mk (Kd.R_below (by (with_reducible repeat (first | apply Kd.R_alloc | apply Kd.R_drewN | apply Kd.R_drew)); exact HO_10.out) hb); replace HO_11 := Aside0.mk (Kd.R_below (by (with_reducible repeat (first | apply Kd.R_alloc | apply Kd.R_drewN | apply Kd.R_drew)); exact HO_11.out) hb); replace HB := Aside0.mk (below_step (bl_ HB) hb); (try clear hb); (try clear hb2); (try clear hk); (try clear hi); obtain ⟨Ao42, co42, eo42⟩ := Kd.R_slice HO_11.out; subst eo42) | (go_at_call 14; (with_reducible refine (quorum_Most.calls k2 _ _ l0 _ _ x11_2 t221 _ ?side1 ?side2 ?side3 ?side4 A39.out).mono ?_); (case side1 => repeat (first | exact (Kd.C_below HR0.out HB.out) | (with_reducible refine Kd.C_alloc ?_ _) | (with_reducible refine Kd.C_drewN ?_ _) | (with_reducible refine Kd.C_drew ?_))); (case side2 => exact HC0.out); (case side3 => repeat (first | exact (Kd.R_reads' HO_11.out).2.2 | (with_reducible refine Kd.C_alloc ?_ _) | (with_reducible refine Kd.C_drewN ?_ _) | (with_reducible refine Kd.C_drew ?_))); (case side4 => exact (Kd.R_reads' HO_11.out).2.1); rintro e w43 ⟨rfl, hb⟩; replace HO_10 := Aside0.mk (Kd.R_below (by (with_reducible repeat (first | apply Kd.R_alloc | apply Kd.R_drewN | apply Kd.R_drew)); exact HO_10.out) hb); replace HO_11 := Aside0.mk (Kd.R_below (by (with_reducible repeat (first | apply Kd.R_alloc | apply Kd.R_drewN | apply Kd.R_drew)); exact HO_11.out) hb); replace HB := Aside0.mk (below_step (bl_ HB) hb); (try clear hb); (try clear hb2); (try clear hk); (try clear hi)))
         go_ret
         exact ⟨by first | rfl | (simp; done) | (simp [*]; done), bl_ HB⟩
        ·replace c38 := Bool.eq_false_iff.mpr c38
         subst c38
         have H1 : (some false) = some r := by rw [if_neg (show ¬ (false = true) by decide)] at H; exact H
         clear H
         have H := H1
         clear H1
         exact absurd (H.trans (congrArg some hr)) (by simp)
    ·replace c15 := Bool.eq_false_iff.mpr c15
     subst c15
     have H1 : (some (t218 == 0)) = some r := by rw [if_neg (show ¬ (false = true) by decide)] at H; exact H
     clear H
     have H := H1
     clear H1
     obtain rfl := Option.some.inj H
     go_wp2_with (first | ((with_reducible refine gate_callee (f := 11) rfl ?_); refine goesL_ (some 26) rfl rfl Try.func11 (by kernel_rfl) rfl #[.slice A0 l0.length c0, .int .i64 a1, .int .u64 a2, .slice A3 l3.length c3] rfl (ar_) ?_; (with_reducible refine (quorum_Settled.calls kj4 _ _ l0 a1 a2 _ _ l3 t218 _ ?side1 ?side2 ?side3 ?side4 A13.out).mono ?_); (case side1 => repeat (first | exact (Kd.C_below HR0.out HB.out) | (with_reducible refine Kd.C_alloc ?_ _) | (with_reducible refine Kd.C_drewN ?_ _) | (with_reducible refine Kd.C_drew ?_))); (case side2 => exact HC0.out); (case side3 => repeat (first | exact (Kd.C_below HR3.out HB.out) | (with_reducible refine Kd.C_alloc ?_ _) | (with_reducible refine Kd.C_drewN ?_ _) | (with_reducible refine Kd.C_drew ?_))); (case side4 => exact HC3.out); rintro e w44 ⟨rfl, hb⟩; refine ⟨_, rfl, ?_⟩; replace HB := Aside0.mk (below_step (bl_ HB) hb); (try clear hb); (try clear hb2); (try clear hk); (try clear hi)) | ((with_reducible refine gate_callee (f := 14) rfl ?_); refine goesL_ (some 29) rfl rfl Try.func14 (by kernel_rfl) rfl #[.slice A0 l0.length c0, .slice A0 l0.length c0] rfl (ar_) ?_; (with_reducible refine (quorum_Most.calls kj4 _ _ l0 _ _ l0 false _ ?side1 ?side2 ?side3 ?side4 A14.out).mono ?_); (case side1 => repeat (first | exact (Kd.C_below HR0.out HB.out) | (with_reducible refine Kd.C_alloc ?_ _) | (with_reducible refine Kd.C_drewN ?_ _) | (with_reducible refine Kd.C_drew ?_))); (case side2 => exact HC0.out); (case side3 => repeat (first | exact (Kd.C_below HR0.out HB.out) | (with_reducible refine Kd.C_alloc ?_ _) | (with_reducible refine Kd.C_drewN ?_ _) | (with_reducible refine Kd.C_drew ?_))); (case side4 => exact HC0.out); rintro e w45 ⟨rfl, hb⟩; refine ⟨_, rfl, ?_⟩; replace HB := Aside0.mk (below_step (bl_ HB) hb); (try clear hb); (try clear hb2); (try clear hk); (try clear hi)))
     go_ret
     exact ⟨by first | rfl | (simp; done) | (simp [*]; done), bl_ HB⟩

/-- THE ONE PURE STATEMENT of gafferlaw15_QuorumHas: yours. -/
def gafferlaw15_QuorumHas.Pure : Prop := ∀ (x0 : List Int) (x1 : Int) (x2 : Int) (x3 : List (S34)), (okSl 8 (okInt .i64)) x0 → (okInt .i64) x1 → (okInt .u64) x2 → (okSl 24 ok34) x3 → ∃ k, gafferlaw15_QuorumHas.f k x0 x1 x2 x3 = some true

end Go.Proofs.Ytjlhohdfojkogaa.PA
