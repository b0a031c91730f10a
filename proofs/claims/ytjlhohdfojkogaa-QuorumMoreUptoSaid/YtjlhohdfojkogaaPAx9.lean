-- Written for this claim by a program of this session. Lean checks it.
import Derived.Test.YtjlhohdfojkogaaPAx0
import Derived.Test.YtjlhohdfojkogaaPAx3
import Derived.Test.YtjlhohdfojkogaaPAx4
namespace Go.Proofs.Ytjlhohdfojkogaa.PA
open Go.RowKit Go.Proofs.YtjlhohdfojkogaaW.PrintWords Go.Proofs.YtjlhohdfojkogaaW.PrintLast Go.Proofs.YtjlhohdfojkogaaW.PrintMore Go.Proofs.Ytjlhohdfojkogaa.Sh Go.Proofs.Ytjlhohdfojkogaa.Op
attribute [local go_sem] max2_int min2_int max_two min_two max_three min_three max_four min_four   -- for this text's walks alone
set_option linter.unusedVariables false
set_option linter.unusedSimpArgs false

/-! ### gafferlaw15_QuorumMore: function 7 -/
mutual
def gafferlaw15_QuorumMore.j0 : Nat → List Int → List Int → List Int → Bool → Option (Bool)
 | 0, _, _, _, _ => none
 | k + 1, x0, x1, x2, x13 => if x13 = true then (some false) else ((some (([] : List Int) : List Int)).bind fun y236 => (if y236.length + x1.length < 17592186044416 then ((some (y236 ++ x1 : List Int)).bind fun y239 => (if y239.length + x2.length < 17592186044416 then ((quorum_Most.f k x0 x1).bind fun t245 => (if t245 = true then ((quorum_Most.f k x0 (y239 ++ x2)).bind fun t246 => (gafferlaw15_QuorumMore.j1 k x0 (!t246))) else (gafferlaw15_QuorumMore.j1 k x0 false))) else (none))) else (none)))
def gafferlaw15_QuorumMore.j1 : Nat → List Int → Bool → Option (Bool)
 | 0, _, _ => none
 | k + 1, x0, x27 => if x27 = true then (some false) else ((quorum_Most.f k x0 x0).bind fun t247 => (if t247 = true then (if 0 ≤ (wrap64 ((x0.length : Int) / 2)) then (if (wrap64 ((x0.length : Int) / 2)) ≤ (x0.length : Int) then ((quorum_Most.f k x0 (x0.take ((wrap64 ((x0.length : Int) / 2)) : Int).toNat)).bind fun t249 => (if t249 = true then (some false) else (if 0 ≤ (wrap64 ((wrap64 ((x0.length : Int) / 2)) + 1)) then (if (wrap64 ((wrap64 ((x0.length : Int) / 2)) + 1)) ≤ (x0.length : Int) then ((quorum_Most.f k x0 (x0.take ((wrap64 ((wrap64 ((x0.length : Int) / 2)) + 1)) : Int).toNat)).bind fun t251 => (some t251)) else (none)) else (none)))) else (none)) else (none)) else (some true)))
end
def gafferlaw15_QuorumMore.f (k : Nat) (l0 : List Int) (l1 : List Int) (l2 : List Int) : Option (Bool) := (gafferlaw15_most.f k).bind fun t234 => (if t234 = true then ((gafferlaw15_settled.f k).bind fun t235 => (gafferlaw15_QuorumMore.j0 k l0 l1 l2 (!t235))) else (gafferlaw15_QuorumMore.j0 k l0 l1 l2 true))
theorem gafferlaw15_QuorumMore.mono_l : ∀ k, (∀ y0 y1 y2 y3, LeO (gafferlaw15_QuorumMore.j0 k y0 y1 y2 y3) (gafferlaw15_QuorumMore.j0 (k + 1) y0 y1 y2 y3)) ∧ (∀ y0 y1, LeO (gafferlaw15_QuorumMore.j1 k y0 y1) (gafferlaw15_QuorumMore.j1 (k + 1) y0 y1))
 | 0 => ⟨fun _ _ _ _ r h => by simp [gafferlaw15_QuorumMore.j0] at h, fun _ _ r h => by simp [gafferlaw15_QuorumMore.j1] at h⟩
 | k + 1 => by
  obtain ⟨ih0, ih1⟩ := gafferlaw15_QuorumMore.mono_l k
  refine ⟨?_, ?_⟩
  ·intro y0 y1 y2 y3
   unfold gafferlaw15_QuorumMore.j0
   repeat' first
   | (with_reducible exact ih0 _ _ _ _)
   | (with_reducible exact ih1 _ _)
   | (with_reducible exact gafferlaw15_most.mono _)
   | (with_reducible exact gafferlaw15_settled.mono _)
   | (with_reducible exact quorum_Most.mono _ _ _)
   | (with_reducible exact LeO.refl _)
   | (with_reducible exact LeO.none _)
   | (with_reducible refine LeO.ite ?_ ?_)
   | (with_reducible refine LeO.bind ?_ (fun _ => ?_))
   | exact ih0 _ _ _ _
   | exact ih1 _ _
   | exact gafferlaw15_most.mono _
   | exact gafferlaw15_settled.mono _
   | exact quorum_Most.mono _ _ _
   | exact LeO.none _
   | refine LeO.ite ?_ ?_
   | refine LeO.bind ?_ (fun _ => ?_)
  ·intro y0 y1
   unfold gafferlaw15_QuorumMore.j1
   repeat' first
   | (with_reducible exact ih0 _ _ _ _)
   | (with_reducible exact ih1 _ _)
   | (with_reducible exact gafferlaw15_most.mono _)
   | (with_reducible exact gafferlaw15_settled.mono _)
   | (with_reducible exact quorum_Most.mono _ _ _)
   | (with_reducible exact LeO.refl _)
   | (with_reducible exact LeO.none _)
   | (with_reducible refine LeO.ite ?_ ?_)
   | (with_reducible refine LeO.bind ?_ (fun _ => ?_))
   | exact ih0 _ _ _ _
   | exact ih1 _ _
   | exact gafferlaw15_most.mono _
   | exact gafferlaw15_settled.mono _
   | exact quorum_Most.mono _ _ _
   | exact LeO.none _
   | refine LeO.ite ?_ ?_
   | refine LeO.bind ?_ (fun _ => ?_)
theorem gafferlaw15_QuorumMore.mono : ∀ a0 a1 a2 k, LeO (gafferlaw15_QuorumMore.f k a0 a1 a2) (gafferlaw15_QuorumMore.f (k + 1) a0 a1 a2) := by
 intro a0 a1 a2 k
 obtain ⟨ih0, ih1⟩ := gafferlaw15_QuorumMore.mono_l k
 unfold gafferlaw15_QuorumMore.f
 repeat' first
   | (with_reducible exact ih0 _ _ _ _)
   | (with_reducible exact ih1 _ _)
   | (with_reducible exact gafferlaw15_most.mono _)
   | (with_reducible exact gafferlaw15_settled.mono _)
   | (with_reducible exact quorum_Most.mono _ _ _)
   | (with_reducible exact LeO.refl _)
   | (with_reducible exact LeO.none _)
   | (with_reducible refine LeO.ite ?_ ?_)
   | (with_reducible refine LeO.bind ?_ (fun _ => ?_))
   | exact ih0 _ _ _ _
   | exact ih1 _ _
   | exact gafferlaw15_most.mono _
   | exact gafferlaw15_settled.mono _
   | exact quorum_Most.mono _ _ _
   | exact LeO.none _
   | refine LeO.ite ?_ ?_
   | refine LeO.bind ?_ (fun _ => ?_)
set_option maxHeartbeats 80000000 in
set_option maxRecDepth 100000 in
theorem gafferlaw15_QuorumMore.calls (k : Nat) (A0 : Option Addr) (c0 : Nat) (l0 : List Int) (A1 : Option Addr) (c1 : Nat) (l1 : List Int) (A2 : Option Addr) (c2 : Nat) (l2 : List Int) (r : Bool) (w : World) (hr0 : Kd.C (Kd.int .i64) w A0 l0.length l0) (hc0 : l0.length ≤ c0) (hr1 : Kd.C (Kd.int .i64) w A1 l1.length l1) (hc1 : l1.length ≤ c1) (hr2 : Kd.C (Kd.int .i64) w A2 l2.length l2) (hc2 : l2.length ≤ c2) (h : gafferlaw15_QuorumMore.f k l0 l1 l2 = some r) (hr : r = true) :
  Calls Try.prog 7 #[.slice A0 l0.length c0, .slice A1 l1.length c1, .slice A2 l2.length c2] w fun e w' => e = .returned (.bool r) ∧ Below w.heap.size w w' := by
 have HR0 := Aside0.mk hr0
 have HC0 := Aside0.mk hc0
 clear hr0 hc0
 have HR1 := Aside0.mk hr1
 have HC1 := Aside0.mk hc1
 clear hr1 hc1
 have HR2 := Aside0.mk hr2
 have HC2 := Aside0.mk hc2
 clear hr2 hc2
 have HB := Aside0.mk (Below.refl w.heap.size w)
 have H : ((gafferlaw15_most.f k).bind fun t234 => (if t234 = true then ((gafferlaw15_settled.f k).bind fun t235 => (gafferlaw15_QuorumMore.j0 k l0 l1 l2 (!t235))) else (gafferlaw15_QuorumMore.j0 k l0 l1 l2 true))) = some r := h
 clear h
 have HC4 := Aside0.mk H
 clear H
 go_enter Try.func7, Try.ntmps7
 go_upto_region 1 with (fail)
 go_cut [13] (fun v13 wc => ∃ (kq : Nat) (x13_3 : Bool), v13 = .bool x13_3 ∧ Aside0 (gafferlaw15_QuorumMore.j0 kq l0 l1 l2 x13_3 = some r) ∧ Aside0 (kq ≤ k) ∧ Aside0 (Below w.heap.size w wc))
 case first =>
  have H := HC4.out
  clear HC4
  replace H := Option.bind_eq_some_iff.mp H
  obtain ⟨t234, A50, H⟩ := H
  replace H : (if t234 = true then ((gafferlaw15_settled.f k).bind fun t235 => (gafferlaw15_QuorumMore.j0 k l0 l1 l2 (!t235))) else (gafferlaw15_QuorumMore.j0 k l0 l1 l2 true)) = some r := H
  have A5 := Aside0.mk A50
  clear A50
  by_cases c6 : t234 = true
  ·subst c6
   have H1 : ((gafferlaw15_settled.f k).bind fun t235 => (gafferlaw15_QuorumMore.j0 k l0 l1 l2 (!t235))) = some r := by rw [if_pos rfl] at H; exact H
   clear H
   have H := H1
   clear H1
   replace H := Option.bind_eq_some_iff.mp H
   obtain ⟨t235, A70, H⟩ := H
   replace H : (gafferlaw15_QuorumMore.j0 k l0 l1 l2 (!t235)) = some r := H
   have A7 := Aside0.mk A70
   clear A70
   have H' := Aside0.mk H
   clear H
   go_wp2_with (first | ((with_reducible refine gate_callee (f := 13) rfl ?_); refine goesL_ (some 8) rfl rfl Try.func13 (by kernel_rfl) rfl #[] rfl (ar_) ?_; (with_reducible refine (gafferlaw15_most.calls k  true _ A5.out).mono ?_); rintro e w8 ⟨rfl, hb⟩; refine ⟨_, rfl, ?_⟩; replace HB := Aside0.mk (below_step (bl_ HB) hb); (try clear hb); (try clear hb2); (try clear hk); (try clear hi)) | (go_at_call 10; (with_reducible refine (gafferlaw15_settled.calls k  t235 _ A7.out).mono ?_); rintro e w9 ⟨rfl, hb⟩; replace HB := Aside0.mk (below_step (bl_ HB) hb); (try clear hb); (try clear hb2); (try clear hk); (try clear hi)))
   go_meet
   case rel => exact ⟨_, (!t235), (by first | rfl | (simp; done) | (simp [*]; done)), H', ⟨by first | omega | exact Nat.le_refl _⟩, ⟨bl_ HB⟩⟩
  ·replace c6 := Bool.eq_false_iff.mpr c6
   subst c6
   have H1 : (gafferlaw15_QuorumMore.j0 k l0 l1 l2 true) = some r := by rw [if_neg (show ¬ (false = true) by decide)] at H; exact H
   clear H
   have H := H1
   clear H1
   have H' := Aside0.mk H
   clear H
   go_wp2_with (first | ((with_reducible refine gate_callee (f := 13) rfl ?_); refine goesL_ (some 8) rfl rfl Try.func13 (by kernel_rfl) rfl #[] rfl (ar_) ?_; (with_reducible refine (gafferlaw15_most.calls k  false _ A5.out).mono ?_); rintro e w10 ⟨rfl, hb⟩; refine ⟨_, rfl, ?_⟩; replace HB := Aside0.mk (below_step (bl_ HB) hb); (try clear hb); (try clear hb2); (try clear hk); (try clear hi)))
   go_meet
   case rel => exact ⟨_, (true), (by first | rfl | (simp; done) | (simp [*]; done)), H', ⟨by first | omega | exact Nat.le_refl _⟩, ⟨bl_ HB⟩⟩
 case rest =>
  clear HC4
  try clear c1
  try clear c2
  try clear p2
  try clear c6
  try clear c7
  obtain ⟨kq, x13_3, rfl, HA, HJ3, HB⟩ := hcut
  cases kq with
  | zero => exact absurd HA.out (by simp [gafferlaw15_QuorumMore.j0])
  | succ kj3 =>
   have H := HA.out
   clear HA
   simp only [gafferlaw15_QuorumMore.j0] at H
   by_cases c11 : x13_3 = true
   ·subst c11
    have H1 : (some false) = some r := by rw [if_pos rfl] at H; exact H
    clear H
    have H := H1
    clear H1
    exact absurd (H.trans (congrArg some hr)) (by simp)
   ·replace c11 := Bool.eq_false_iff.mpr c11
    subst c11
    have H1 : ((some (([] : List Int) : List Int)).bind fun y236 => (if y236.length + l1.length < 17592186044416 then ((some (y236 ++ l1 : List Int)).bind fun y239 => (if y239.length + l2.length < 17592186044416 then ((quorum_Most.f kj3 l0 l1).bind fun t245 => (if t245 = true then ((quorum_Most.f kj3 l0 (y239 ++ l2)).bind fun t246 => (gafferlaw15_QuorumMore.j1 kj3 l0 (!t246))) else (gafferlaw15_QuorumMore.j1 kj3 l0 false))) else (none))) else (none))) = some r := by rw [if_neg (show ¬ (false = true) by decide)] at H; exact H
    clear H
    have H := H1
    clear H1
    obtain ⟨y236, hy236⟩ : ∃ y_ : List Int, y_ = (([] : List Int)) := ⟨_, rfl⟩
    replace H : (if y236.length + l1.length < 17592186044416 then ((some (y236 ++ l1 : List Int)).bind fun y239 => (if y239.length + l2.length < 17592186044416 then ((quorum_Most.f kj3 l0 l1).bind fun t245 => (if t245 = true then ((quorum_Most.f kj3 l0 (y239 ++ l2)).bind fun t246 => (gafferlaw15_QuorumMore.j1 kj3 l0 (!t246))) else (gafferlaw15_QuorumMore.j1 kj3 l0 false))) else (none))) else (none)) = some r := by first | (rw [hy236]; with_reducible exact H) | (have H2_ := (Option.bind_some _ _).symm.trans H; rw [hy236]; with_reducible exact H2_) | (have H2_ := (Option.bind_some _ _).symm.trans H; with_reducible exact H2_) | with_reducible exact H | (rw [hy236]; exact H) | exact H
    have Ny236 := Aside0.mk hy236
    clear hy236
    by_cases c12 : y236.length + l1.length < 17592186044416
    ·rw [if_pos c12] at H
     have LMc12 := Aside0.mk c12
     clear c12
     obtain ⟨y239, hy239⟩ : ∃ y_ : List Int, y_ = (y236 ++ l1) := ⟨_, rfl⟩
     replace H : (if y239.length + l2.length < 17592186044416 then ((quorum_Most.f kj3 l0 l1).bind fun t245 => (if t245 = true then ((quorum_Most.f kj3 l0 (y239 ++ l2)).bind fun t246 => (gafferlaw15_QuorumMore.j1 kj3 l0 (!t246))) else (gafferlaw15_QuorumMore.j1 kj3 l0 false))) else (none)) = some r := by first | (rw [hy239]; with_reducible exact H) | (have H2_ := (Option.bind_some _ _).symm.trans H; rw [hy239]; with_reducible exact H2_) | (have H2_ := (Option.bind_some _ _).symm.trans H; with_reducible exact H2_) | with_reducible exact H | (rw [hy239]; exact H) | exact H
     have Ny239 := Aside0.mk hy239
     clear hy239
     by_cases c13 : y239.length + l2.length < 17592186044416
     ·rw [if_pos c13] at H
      have LMc13 := Aside0.mk c13
      clear c13
      obtain ⟨y242, hy242⟩ : ∃ y_ : List Int, y_ = (y239 ++ l2) := ⟨_, rfl⟩
      replace H : ((quorum_Most.f kj3 l0 l1).bind fun t245 => (if t245 = true then ((quorum_Most.f kj3 l0 y242).bind fun t246 => (gafferlaw15_QuorumMore.j1 kj3 l0 (!t246))) else (gafferlaw15_QuorumMore.j1 kj3 l0 false))) = some r := by first | (rw [hy242]; with_reducible exact H) | (have H2_ := (Option.bind_some _ _).symm.trans H; rw [hy242]; with_reducible exact H2_) | (have H2_ := (Option.bind_some _ _).symm.trans H; with_reducible exact H2_) | with_reducible exact H | (rw [hy242]; exact H) | exact H
      have Ny242 := Aside0.mk hy242
      clear hy242
      have HC14 := Aside0.mk H
      clear H
      go_upto_region 4 with (first | ((with_reducible refine gate_dst (N := 14) rfl ?_); (try (refine gate_guard (by rfl) ?_; dsimp only)); refine Kd.R_lit (Kd.int .i64) _ 3 ?hg (N := 14) ?hd (xs := ([] : List Int)) (inner := []) (ok := fun _ => True) (okp := fun _ => True) ?hr ?hp (fun _ hk => hk) trivial (Below.refl _ _) (Nat.le_refl _) (by simp) ?_; (case hd => rfl); (case hg => rfl); (case hr => first | (go_simp; done) | (go_simp; rfl)); (case hp => exact (Reps.none _ _)); intro v237 w15 ho16 hb hg_ hnew_; clear hg_ hnew_; (first | rw [← Ny236.out] at ho16 | (simp only [Int.reduceToNat] at ho16; rw [← Ny236.out] at ho16)); have HO238 := Aside0.mk (Kd.R_lower ho16 (below_size (bl_ HB))); replace HB := Aside0.mk (below_step (bl_ HB) hb); clear hb ho16) | ((with_reducible refine gate_builtin (b := .append) (xs := #[.tmp 14, .tmp 15]) rfl ?_); (try (refine gate_guard (by rfl) ?_; dsimp only)); at_builtin; refine Kd.R_append_rows (Kd.int .i64) (w0 := w) w.heap.size rfl (.tmp 14) (.tmp 15) 22 3 (.int .i64 0) 8 rfl Try.underlying22 info3 rfl (by decide) (by omega) v237 y236 l1 _ _ _ (fun _ => True) (fun _ => False) rfl rfl ?aO ?aR (fun _ _ h => h) (fun _ h => h.elim) ?aF ?aB ?aS ?aL ?_; (case aR => repeat (first | exact (Kd.C_below HR1.out HB.out) | (with_reducible refine Kd.C_alloc ?_ _) | (with_reducible refine Kd.C_drewN ?_ _) | (with_reducible refine Kd.C_drew ?_))); (case aB => exact (bl_ HB)); (case aF => exact (fun _ _ => trivial)); (case aO => exact (by (with_reducible repeat (first | apply Kd.R_alloc | apply Kd.R_drewN | apply Kd.R_drew)); exact HO238.out)); (case aS => exact (below_size (bl_ HB))); (case aL => have := LMc12.out; omega); intro v240 w17 ho hb hg hat; rw [← Ny239.out] at ho; replace HB := Aside0.mk (hb); have HO241 := Aside0.mk (ho); clear HO238; clear ho hb hg hat) | ((with_reducible refine gate_builtin (b := .append) (xs := #[.tmp 16, .tmp 17]) rfl ?_); (try (refine gate_guard (by rfl) ?_; dsimp only)); at_builtin; refine Kd.R_append_rows (Kd.int .i64) (w0 := w) w.heap.size rfl (.tmp 16) (.tmp 17) 22 3 (.int .i64 0) 8 rfl Try.underlying22 info3 rfl (by decide) (by omega) v240 y239 l2 _ _ _ (fun _ => True) (fun _ => False) rfl rfl ?aO ?aR (fun _ _ h => h) (fun _ h => h.elim) ?aF ?aB ?aS ?aL ?_; (case aR => repeat (first | exact (Kd.C_below HR2.out HB.out) | (with_reducible refine Kd.C_alloc ?_ _) | (with_reducible refine Kd.C_drewN ?_ _) | (with_reducible refine Kd.C_drew ?_))); (case aB => exact (bl_ HB)); (case aF => exact (fun _ _ => trivial)); (case aO => exact (by (with_reducible repeat (first | apply Kd.R_alloc | apply Kd.R_drewN | apply Kd.R_drew)); exact HO241.out)); (case aS => exact (below_size (bl_ HB))); (case aL => have := LMc13.out; omega); intro v243 w18 ho hb hg hat; rw [← Ny242.out] at ho; replace HB := Aside0.mk (hb); have HO244 := Aside0.mk (ho); clear HO241; clear ho hb hg hat))
      (try simp only [Act.put, List.setIfInBounds_toArray, List.set_cons_zero, List.set_cons_succ])
      go_cut [27] (fun v27 wc => ∃ (kq : Nat) (x27_13 : Bool), v27 = .bool x27_13 ∧ Aside0 (gafferlaw15_QuorumMore.j1 kq l0 x27_13 = some r) ∧ Aside0 (kq ≤ kj3) ∧ Aside0 (Below w.heap.size w wc))
      case first =>
       have H := HC14.out
       clear HC14
       replace H := Option.bind_eq_some_iff.mp H
       obtain ⟨t245, A190, H⟩ := H
       replace H : (if t245 = true then ((quorum_Most.f kj3 l0 y242).bind fun t246 => (gafferlaw15_QuorumMore.j1 kj3 l0 (!t246))) else (gafferlaw15_QuorumMore.j1 kj3 l0 false)) = some r := H
       have A19 := Aside0.mk A190
       clear A190
       by_cases c20 : t245 = true
       ·subst c20
        have H1 : ((quorum_Most.f kj3 l0 y242).bind fun t246 => (gafferlaw15_QuorumMore.j1 kj3 l0 (!t246))) = some r := by rw [if_pos rfl] at H; exact H
        clear H
        have H := H1
        clear H1
        replace H := Option.bind_eq_some_iff.mp H
        obtain ⟨t246, A210, H⟩ := H
        replace H : (gafferlaw15_QuorumMore.j1 kj3 l0 (!t246)) = some r := H
        have A21 := Aside0.mk A210
        clear A210
        have H' := Aside0.mk H
        clear H
        go_wp2_with (first | ((with_reducible refine gate_callee (f := 14) rfl ?_); refine goesL_ (some 21) rfl rfl Try.func14 (by kernel_rfl) rfl #[.slice A0 l0.length c0, .slice A1 l1.length c1] rfl (ar_) ?_; (with_reducible refine (quorum_Most.calls kj3 _ _ l0 _ _ l1 true _ ?side1 ?side2 ?side3 ?side4 A19.out).mono ?_); (case side1 => repeat (first | exact (Kd.C_below HR0.out HB.out) | (with_reducible refine Kd.C_alloc ?_ _) | (with_reducible refine Kd.C_drewN ?_ _) | (with_reducible refine Kd.C_drew ?_))); (case side2 => exact HC0.out); (case side3 => repeat (first | exact (Kd.C_below HR1.out HB.out) | (with_reducible refine Kd.C_alloc ?_ _) | (with_reducible refine Kd.C_drewN ?_ _) | (with_reducible refine Kd.C_drew ?_))); (case side4 => exact HC1.out); rintro e w22 ⟨rfl, hb⟩; refine ⟨_, rfl, ?_⟩; replace HO244 := Aside0.mk (Kd.R_below (by (with_reducible repeat (first | apply Kd.R_alloc | apply Kd.R_drewN | apply Kd.R_drew)); exact HO244.out) hb); replace HB := Aside0.mk (below_step (bl_ HB) hb); (try clear hb); (try clear hb2); (try clear hk); (try clear hi); obtain ⟨Ao23, co23, eo23⟩ := Kd.R_slice HO244.out; subst eo23) | (go_at_call 14; (with_reducible refine (quorum_Most.calls kj3 _ _ l0 _ _ y242 t246 _ ?side1 ?side2 ?side3 ?side4 A21.out).mono ?_); (case side1 => repeat (first | exact (Kd.C_below HR0.out HB.out) | (with_reducible refine Kd.C_alloc ?_ _) | (with_reducible refine Kd.C_drewN ?_ _) | (with_reducible refine Kd.C_drew ?_))); (case side2 => exact HC0.out); (case side3 => repeat (first | exact (Kd.R_reads' HO244.out).2.2 | (with_reducible refine Kd.C_alloc ?_ _) | (with_reducible refine Kd.C_drewN ?_ _) | (with_reducible refine Kd.C_drew ?_))); (case side4 => exact (Kd.R_reads' HO244.out).2.1); rintro e w24 ⟨rfl, hb⟩; replace HO244 := Aside0.mk (Kd.R_below (by (with_reducible repeat (first | apply Kd.R_alloc | apply Kd.R_drewN | apply Kd.R_drew)); exact HO244.out) hb); replace HB := Aside0.mk (below_step (bl_ HB) hb); (try clear hb); (try clear hb2); (try clear hk); (try clear hi)))
        go_meet
        case rel => exact ⟨_, (!t246), (by first | rfl | (simp; done) | (simp [*]; done)), H', ⟨by have := HJ3.out; first | omega | exact Nat.le_refl _⟩, ⟨bl_ HB⟩⟩
       ·replace c20 := Bool.eq_false_iff.mpr c20
        subst c20
        have H1 : (gafferlaw15_QuorumMore.j1 kj3 l0 false) = some r := by rw [if_neg (show ¬ (false = true) by decide)] at H; exact H
        clear H
        have H := H1
        clear H1
        have H' := Aside0.mk H
        clear H
        go_wp2_with (first | ((with_reducible refine gate_callee (f := 14) rfl ?_); refine goesL_ (some 21) rfl rfl Try.func14 (by kernel_rfl) rfl #[.slice A0 l0.length c0, .slice A1 l1.length c1] rfl (ar_) ?_; (with_reducible refine (quorum_Most.calls kj3 _ _ l0 _ _ l1 false _ ?side1 ?side2 ?side3 ?side4 A19.out).mono ?_); (case side1 => repeat (first | exact (Kd.C_below HR0.out HB.out) | (with_reducible refine Kd.C_alloc ?_ _) | (with_reducible refine Kd.C_drewN ?_ _) | (with_reducible refine Kd.C_drew ?_))); (case side2 => exact HC0.out); (case side3 => repeat (first | exact (Kd.C_below HR1.out HB.out) | (with_reducible refine Kd.C_alloc ?_ _) | (with_reducible refine Kd.C_drewN ?_ _) | (with_reducible refine Kd.C_drew ?_))); (case side4 => exact HC1.out); rintro e w25 ⟨rfl, hb⟩; refine ⟨_, rfl, ?_⟩; replace HO244 := Aside0.mk (Kd.R_below (by (with_reducible repeat (first | apply Kd.R_alloc | apply Kd.R_drewN | apply Kd.R_drew)); exact HO244.out) hb); replace HB := Aside0.mk (below_step (bl_ HB) hb); (try clear hb); (try clear hb2); (try clear hk); (try clear hi)))
        go_meet
        case rel => exact ⟨_, (false), (by first | rfl | (simp; done) | (simp [*]; done)), H', ⟨by have := HJ3.out; first | omega | exact Nat.le_refl _⟩, ⟨bl_ HB⟩⟩
      case rest =>
       clear HC14
       try clear c1
       try clear c2
       try clear p2
       try clear c6
       try clear c7
       try clear c11
       try clear c12
       try clear c13
       try clear c14
       try clear c20
       try clear p2
       obtain ⟨kq, x27_13, rfl, HA, HJ13, HB⟩ := hcut
       cases kq with
       | zero => exact absurd HA.out (by simp [gafferlaw15_QuorumMore.j1])
       | succ kj13 =>
        have H := HA.out
        clear HA
        simp only [gafferlaw15_QuorumMore.j1] at H
        by_cases c26 : x27_13 = true
        ·subst c26
         have H1 : (some false) = some r := by rw [if_pos rfl] at H; exact H
         clear H
         have H := H1
         clear H1
         exact absurd (H.trans (congrArg some hr)) (by simp)
        ·replace c26 := Bool.eq_false_iff.mpr c26
         subst c26
         have H1 : ((quorum_Most.f kj13 l0 l0).bind fun t247 => (if t247 = true then (if 0 ≤ (wrap64 ((l0.length : Int) / 2)) then (if (wrap64 ((l0.length : Int) / 2)) ≤ (l0.length : Int) then ((quorum_Most.f kj13 l0 (l0.take ((wrap64 ((l0.length : Int) / 2)) : Int).toNat)).bind fun t249 => (if t249 = true then (some false) else (if 0 ≤ (wrap64 ((wrap64 ((l0.length : Int) / 2)) + 1)) then (if (wrap64 ((wrap64 ((l0.length : Int) / 2)) + 1)) ≤ (l0.length : Int) then ((quorum_Most.f kj13 l0 (l0.take ((wrap64 ((wrap64 ((l0.length : Int) / 2)) + 1)) : Int).toNat)).bind fun t251 => (some t251)) else (none)) else (none)))) else (none)) else (none)) else (some true))) = some r := by rw [if_neg (show ¬ (false = true) by decide)] at H; exact H
         clear H
         have H := H1
         clear H1
         replace H := Option.bind_eq_some_iff.mp H
         obtain ⟨t247, A270, H⟩ := H
         replace H : (if t247 = true then (if 0 ≤ (wrap64 ((l0.length : Int) / 2)) then (if (wrap64 ((l0.length : Int) / 2)) ≤ (l0.length : Int) then ((quorum_Most.f kj13 l0 (l0.take ((wrap64 ((l0.length : Int) / 2)) : Int).toNat)).bind fun t249 => (if t249 = true then (some false) else (if 0 ≤ (wrap64 ((wrap64 ((l0.length : Int) / 2)) + 1)) then (if (wrap64 ((wrap64 ((l0.length : Int) / 2)) + 1)) ≤ (l0.length : Int) then ((quorum_Most.f kj13 l0 (l0.take ((wrap64 ((wrap64 ((l0.length : Int) / 2)) + 1)) : Int).toNat)).bind fun t251 => (some t251)) else (none)) else (none)))) else (none)) else (none)) else (some true)) = some r := H
         have A27 := Aside0.mk A270
         clear A270
         by_cases c28 : t247 = true
         ·subst c28
          have H1 : (if 0 ≤ (wrap64 ((l0.length : Int) / 2)) then (if (wrap64 ((l0.length : Int) / 2)) ≤ (l0.length : Int) then ((quorum_Most.f kj13 l0 (l0.take ((wrap64 ((l0.length : Int) / 2)) : Int).toNat)).bind fun t249 => (if t249 = true then (some false) else (if 0 ≤ (wrap64 ((wrap64 ((l0.length : Int) / 2)) + 1)) then (if (wrap64 ((wrap64 ((l0.length : Int) / 2)) + 1)) ≤ (l0.length : Int) then ((quorum_Most.f kj13 l0 (l0.take ((wrap64 ((wrap64 ((l0.length : Int) / 2)) + 1)) : Int).toNat)).bind fun t251 => (some t251)) else (none)) else (none)))) else (none)) else (none)) = some r := by rw [if_pos rfl] at H; exact H
          clear H
          have H := H1
          clear H1
          obtain ⟨ji29, hji29⟩ : ∃ j_ : Int, (wrap64 ((l0.length : Int) / 2)) = j_ := ⟨_, rfl⟩
          replace H : (if 0 ≤ (ji29) then (if (ji29) ≤ (l0.length : Int) then ((quorum_Most.f kj13 l0 (l0.take ((ji29) : Int).toNat)).bind fun t249 => (if t249 = true then (some false) else (if 0 ≤ (wrap64 ((ji29) + 1)) then (if (wrap64 ((ji29) + 1)) ≤ (l0.length : Int) then ((quorum_Most.f kj13 l0 (l0.take ((wrap64 ((ji29) + 1)) : Int).toNat)).bind fun t251 => (some t251)) else (none)) else (none)))) else (none)) else (none)) = some r := by first | (rw [hji29] at H; exact H) | (simp only [hji29] at H ⊢; exact H)
          (try rw [hji29] at A27)
          have hji29w : (IntKind.i64.wrap ((l0.length : Int) / 2)) = ji29 := (i64_w _).trans hji29
          by_cases c30 : 0 ≤ (ji29)
          ·rw [if_pos c30] at H
           have c30b0 := eq_true c30
           have c30b1 : decide (0 ≤ (ji29)) = true := decide_eq_true c30
           clear c30
           by_cases c31 : (ji29) ≤ (l0.length : Int)
           ·rw [if_pos c31] at H
            have c31b0 := eq_true c31
            have c31b1 : decide ((ji29) ≤ (l0.length : Int)) = true := decide_eq_true c31
            clear c31
            replace H := Option.bind_eq_some_iff.mp H
            obtain ⟨t249, A320, H⟩ := H
            replace H : (if t249 = true then (some false) else (if 0 ≤ (wrap64 ((ji29) + 1)) then (if (wrap64 ((ji29) + 1)) ≤ (l0.length : Int) then ((quorum_Most.f kj13 l0 (l0.take ((wrap64 ((ji29) + 1)) : Int).toNat)).bind fun t251 => (some t251)) else (none)) else (none))) = some r := H
            have A32 := Aside0.mk A320
            clear A320
            by_cases c33 : t249 = true
            ·subst c33
             have H1 : (some false) = some r := by rw [if_pos rfl] at H; exact H
             clear H
             have H := H1
             clear H1
             exact absurd (H.trans (congrArg some hr)) (by simp)
            ·replace c33 := Bool.eq_false_iff.mpr c33
             subst c33
             have H1 : (if 0 ≤ (wrap64 ((ji29) + 1)) then (if (wrap64 ((ji29) + 1)) ≤ (l0.length : Int) then ((quorum_Most.f kj13 l0 (l0.take ((wrap64 ((ji29) + 1)) : Int).toNat)).bind fun t251 => (some t251)) else (none)) else (none)) = some r := by rw [if_neg (show ¬ (false = true) by decide)] at H; exact H
             clear H
             have H := H1
             clear H1
             obtain ⟨ji34, hji34⟩ : ∃ j_ : Int, (wrap64 ((ji29) + 1)) = j_ := ⟨_, rfl⟩
             replace H : (if 0 ≤ (ji34) then (if (ji34) ≤ (l0.length : Int) then ((quorum_Most.f kj13 l0 (l0.take ((ji34) : Int).toNat)).bind fun t251 => (some t251)) else (none)) else (none)) = some r := by first | (rw [hji34] at H; exact H) | (simp only [hji34] at H ⊢; exact H)
             (try rw [hji34] at A27)
             (try rw [hji34] at A32)
             have hji34w : (IntKind.i64.wrap ((ji29) + 1)) = ji34 := (i64_w _).trans hji34
             by_cases c35 : 0 ≤ (ji34)
             ·rw [if_pos c35] at H
              have c35b0 := eq_true c35
              have c35b1 : decide (0 ≤ (ji34)) = true := decide_eq_true c35
              clear c35
              by_cases c36 : (ji34) ≤ (l0.length : Int)
              ·rw [if_pos c36] at H
               have c36b0 := eq_true c36
               have c36b1 : decide ((ji34) ≤ (l0.length : Int)) = true := decide_eq_true c36
               clear c36
               replace H := Option.bind_eq_some_iff.mp H
               obtain ⟨t251, A370, H⟩ := H
               replace H : (some t251) = some r := H
               have A37 := Aside0.mk A370
               clear A370
               obtain rfl := Option.some.inj H
               go_wp2_with (first | ((with_reducible refine gate_callee (f := 14) rfl ?_); refine goesL_ (some 30) rfl rfl Try.func14 (by kernel_rfl) rfl #[.slice A0 l0.length c0, .slice A0 l0.length c0] rfl (ar_) ?_; (with_reducible refine (quorum_Most.calls kj13 _ _ l0 _ _ l0 true _ ?side1 ?side2 ?side3 ?side4 A27.out).mono ?_); (case side1 => repeat (first | exact (Kd.C_below HR0.out HB.out) | (with_reducible refine Kd.C_alloc ?_ _) | (with_reducible refine Kd.C_drewN ?_ _) | (with_reducible refine Kd.C_drew ?_))); (case side2 => exact HC0.out); (case side3 => repeat (first | exact (Kd.C_below HR0.out HB.out) | (with_reducible refine Kd.C_alloc ?_ _) | (with_reducible refine Kd.C_drewN ?_ _) | (with_reducible refine Kd.C_drew ?_))); (case side4 => exact HC0.out); rintro e w38 ⟨rfl, hb⟩; refine ⟨_, rfl, ?_⟩; replace HB := Aside0.mk (below_step (bl_ HB) hb); (try clear hb); (try clear hb2); (try clear hk); (try clear hi); obtain ⟨i039, hi039, _, hsz39, _⟩ := info_parts info3; obtain ⟨hcut39, hA39, hC39⟩ := print_take_of (P := Try.prog) (Value.int .i64) 0 22 3 .i64 Try.underlying22 hi039 hsz39 A0 c0 l0 (ji29) (of_decide_eq_true (by first | (with_reducible assumption) | assumption)) (of_decide_eq_true (by first | (with_reducible assumption) | assumption)) HC0.out; have HR248 := Aside0.mk (Kd.C_of_reads (h1 := fun _ => rfl) (hA39 _ (Kd.reads_of_C HR0.out))); have HC248 := Aside0.mk hC39; clear hA39 hC39 hi039 hsz39) | (go_at_call 14; (try rw [show ((ji29) : Int).toNat = (l0.take ((ji29) : Int).toNat).length from by have h_ : (ji29) ≤ (l0.length : Int) := of_decide_eq_true (by first | (with_reducible assumption) | assumption); rw [List.length_take]; omega]); (with_reducible refine (quorum_Most.calls kj13 _ _ l0 _ _ (l0.take ((ji29) : Int).toNat) false _ ?side1 ?side2 ?side3 ?side4 A32.out).mono ?_); (case side1 => repeat (first | exact (Kd.C_below HR0.out HB.out) | (with_reducible refine Kd.C_alloc ?_ _) | (with_reducible refine Kd.C_drewN ?_ _) | (with_reducible refine Kd.C_drew ?_))); (case side2 => exact HC0.out); (case side3 => repeat (first | exact (Kd.C_below HR248.out HB.out) | (with_reducible refine Kd.C_alloc ?_ _) | (with_reducible refine Kd.C_drewN ?_ _) | (with_reducible refine Kd.C_drew ?_))); (case side4 => exact HC248.out); rintro e w40 ⟨rfl, hb⟩; replace HB := Aside0.mk (below_step (bl_ HB) hb); (try clear hb); (try clear hb2); (try clear hk); (try clear hi); obtain ⟨i041, hi041, _, hsz41, _⟩ := info_parts info3; obtain ⟨hcut41, hA41, hC41⟩ := print_take_of (P := Try.prog) (Value.int .i64) 0 22 3 .i64 Try.underlying22 hi041 hsz41 A0 c0 l0 (ji34) (of_decide_eq_true (by first | (with_reducible assumption) | assumption)) (of_decide_eq_true (by first | (with_reducible assumption) | assumption)) HC0.out; have HR250 := Aside0.mk (Kd.C_of_reads (h1 := fun _ => rfl) (hA41 _ (Kd.reads_of_C HR0.out))); have HC250 := Aside0.mk hC41; clear hA41 hC41 hi041 hsz41) | (go_at_call 14; (try rw [show ((ji34) : Int).toNat = (l0.take ((ji34) : Int).toNat).length from by have h_ : (ji34) ≤ (l0.length : Int) := of_decide_eq_true (by first | (with_reducible assumption) | assumption); rw [List.length_take]; omega]); (with_reducible refine (quorum_Most.calls kj13 _ _ l0 _ _ (l0.take ((ji34) : Int).toNat) t251 _ ?side1 ?side2 ?side3 ?side4 A37.out).mono ?_); (case side1 => repeat (first | exact (Kd.C_below HR0.out HB.out) | (with_reducible refine Kd.C_alloc ?_ _) | (with_reducible refine Kd.C_drewN ?_ _) | (with_reducible refine Kd.C_drew ?_))); (case side2 => exact HC0.out); (case side3 => repeat (first | exact (Kd.C_below HR250.out HB.out) | (with_reducible refine Kd.C_alloc ?_ _) | (with_reducible refine Kd.C_drewN ?_ _) | (with_reducible refine Kd.C_drew ?_))); (case side4 => exact HC250.out); rintro e w42 ⟨rfl, hb⟩; replace HB := Aside0.mk (below_step (bl_ HB) hb); (try clear hb); (try clear hb2); (try clear hk); (try clear hi)))
               go_ret
               exact ⟨by first | rfl | (simp [errW_none, errW_some] <;> rfl) | (simp only [← hji29, ← hji34]; first | rfl | (simp [errW_none, errW_some] <;> rfl)) | (simp [*, errW_none, errW_some] <;> rfl), bl_ HB⟩
              ·rw [if_neg c36] at H
               exact absurd H (by simp)
             ·rw [if_neg c35] at H
              exact absurd H (by simp)
           ·rw [if_neg c31] at H
            exact absurd H (by simp)
          ·rw [if_neg c30] at H
           exact absurd H (by simp)
         ·replace c28 := Bool.eq_false_iff.mpr c28
          subst c28
          have H1 : (some true) = some r := by rw [if_neg (show ¬ (false = true) by decide)] at H; exact H
          clear H
          have H := H1
          clear H1
          obtain rfl := Option.some.inj H
          go_wp2_with (first | ((with_reducible refine gate_callee (f := 14) rfl ?_); refine goesL_ (some 30) rfl rfl Try.func14 (by kernel_rfl) rfl #[.slice A0 l0.length c0, .slice A0 l0.length c0] rfl (ar_) ?_; (with_reducible refine (quorum_Most.calls kj13 _ _ l0 _ _ l0 false _ ?side1 ?side2 ?side3 ?side4 A27.out).mono ?_); (case side1 => repeat (first | exact (Kd.C_below HR0.out HB.out) | (with_reducible refine Kd.C_alloc ?_ _) | (with_reducible refine Kd.C_drewN ?_ _) | (with_reducible refine Kd.C_drew ?_))); (case side2 => exact HC0.out); (case side3 => repeat (first | exact (Kd.C_below HR0.out HB.out) | (with_reducible refine Kd.C_alloc ?_ _) | (with_reducible refine Kd.C_drewN ?_ _) | (with_reducible refine Kd.C_drew ?_))); (case side4 => exact HC0.out); rintro e w43 ⟨rfl, hb⟩; refine ⟨_, rfl, ?_⟩; replace HB := Aside0.mk (below_step (bl_ HB) hb); (try clear hb); (try clear hb2); (try clear hk); (try clear hi)))
          go_ret
          exact ⟨by first | rfl | (simp; done) | (simp [*]; done), bl_ HB⟩
     ·rw [if_neg c13] at H
      exact absurd H (by simp)
    ·rw [if_neg c12] at H
     exact absurd H (by simp)

/-- THE ONE PURE STATEMENT of gafferlaw15_QuorumMore: yours. -/
def gafferlaw15_QuorumMore.Pure : Prop := ∀ (l0 : List Int) (l1 : List Int) (l2 : List Int), l0.length ≤ maxLen → l0.length * 8 ≤ 140737488351232 → (∀ x ∈ l0, (Lit.int .i64 x).wf = true) → l1.length ≤ maxLen → l1.length * 8 ≤ 140737488351232 → (∀ x ∈ l1, (Lit.int .i64 x).wf = true) → l2.length ≤ maxLen → l2.length * 8 ≤ 140737488351232 → (∀ x ∈ l2, (Lit.int .i64 x).wf = true) → ∃ k, gafferlaw15_QuorumMore.f k l0 l1 l2 = some true
theorem gafferlaw15_QuorumMore.walk (P : gafferlaw15_QuorumMore.Pure) (a0 : Option Addr) (len0 cap0 : Nat) (z0 : List Int) (a1 : Option Addr) (len1 cap1 : Nat) (z1 : List Int) (a2 : Option Addr) (len2 cap2 : Nat) (z2 : List Int) (w : World) (w0 : (a0 = none ∧ len0 = 0 ∧ cap0 = 0 ∧ z0 = []) ∨ ∃ x, a0 = some x ∧ len0 ≤ cap0 ∧ cap0 ≤ maxLen ∧ z0.length = cap0 ∧ (∀ i, i < z0.length → w.cell? (x.add i) = some (.int .i64 (z0.getD i 0))) ∧ ∀ n ∈ z0, (Lit.int .i64 n).wf = true) (y0 : len0 * 8 ≤ 140737488351232) (w1 : (a1 = none ∧ len1 = 0 ∧ cap1 = 0 ∧ z1 = []) ∨ ∃ x, a1 = some x ∧ len1 ≤ cap1 ∧ cap1 ≤ maxLen ∧ z1.length = cap1 ∧ (∀ i, i < z1.length → w.cell? (x.add i) = some (.int .i64 (z1.getD i 0))) ∧ ∀ n ∈ z1, (Lit.int .i64 n).wf = true) (y1 : len1 * 8 ≤ 140737488351232) (w2 : (a2 = none ∧ len2 = 0 ∧ cap2 = 0 ∧ z2 = []) ∨ ∃ x, a2 = some x ∧ len2 ≤ cap2 ∧ cap2 ≤ maxLen ∧ z2.length = cap2 ∧ (∀ i, i < z2.length → w.cell? (x.add i) = some (.int .i64 (z2.getD i 0))) ∧ ∀ n ∈ z2, (Lit.int .i64 n).wf = true) (y2 : len2 * 8 ≤ 140737488351232) :
  Calls Try.prog 7 #[.slice a0 len0 cap0, .slice a1 len1 cap1, .slice a2 len2 cap2] w fun e w' => e = .returned (.bool true) ∧ Below w.heap.size w w' := by
 obtain ⟨l0, rfl, hr0, hm0, hw0, hc0⟩ := ReadsInt.ofRowC w0
 obtain ⟨l1, rfl, hr1, hm1, hw1, hc1⟩ := ReadsInt.ofRowC w1
 obtain ⟨l2, rfl, hr2, hm2, hw2, hc2⟩ := ReadsInt.ofRowC w2
 obtain ⟨k, h⟩ := P l0 l1 l2 hm0 y0 hw0 hm1 y1 hw1 hm2 y2 hw2
 refine (gafferlaw15_QuorumMore.calls k _ _ l0 _ _ l1 _ _ l2 true w (Kd.C_of_reads (d := (0 : Int)) (h1 := fun _ => rfl) hr0) hc0 (Kd.C_of_reads (d := (0 : Int)) (h1 := fun _ => rfl) hr1) hc1 (Kd.C_of_reads (d := (0 : Int)) (h1 := fun _ => rfl) hr2) hc2 h rfl).mono ?_
 rintro e w' ⟨rfl, hd⟩
 exact ⟨rfl, hd⟩

/-! ### gafferlaw15_QuorumEnds: function 9 -/
mutual
def gafferlaw15_QuorumEnds.j0 : Nat → List Int → Int → Int → List (S34) → Int → Bool → Option (Bool)
 | 0, _, _, _, _, _, _ => none
 | k + 1, x0, x1, x2, x3, x4, x20 => if x20 = true then (some false) else ((quorum_Settled.f k x0 x1 x2 x3).bind fun t254 => (if t254 = x2 then (gafferlaw15_QuorumEnds.j1 k x0 x1 x2 x3 x4 t254 true) else (gafferlaw15_QuorumEnds.j1 k x0 x1 x2 x3 x4 t254 (t254 == 0))))
def gafferlaw15_QuorumEnds.j1 : Nat → List Int → Int → Int → List (S34) → Int → Int → Bool → Option (Bool)
 | 0, _, _, _, _, _, _, _ => none
 | k + 1, x0, x1, x2, x3, x4, x11, x12 => (some (([] : List (S34)) : List (S34))).bind fun y255 => (if y255.length + x3.length < 5864062014805 then ((some (y255 ++ x3 : List (S34))).bind fun y258 => (gafferlaw15_QuorumEnds.l0 k x0 x1 x2 x4 x11 x12 y258 (y258.length : Int) 0)) else (none))
def gafferlaw15_QuorumEnds.l0 : Nat → List Int → Int → Int → Int → Int → Bool → List (S34) → Int → Int → Option (Bool)
 | 0, _, _, _, _, _, _, _, _, _ => none
 | k + 1, x0, x1, x2, x4, x11, x12, x13, x37, x38 => if x38 < x37 then (if x12 = true then (if 0 ≤ x38 then (if x38 < (x13.length : Int) then (if ((rd_T34 x13 x38).f2) < x4 then (gafferlaw15_QuorumEnds.l0 k x0 x1 x2 x4 x11 true (x13.set (x38 : Int).toNat (⟨(rd_T34 x13 x38).f0, (rd_T34 x13 x38).f1, x4⟩ : S34)) x37 (wrap64 (x38 + 1))) else (gafferlaw15_QuorumEnds.l0 k x0 x1 x2 x4 x11 true x13 x37 (wrap64 (x38 + 1)))) else (none)) else (none)) else (if 0 ≤ x38 then (if x38 < (x13.length : Int) then (if ((rd_T34 x13 x38).f2) < x4 then (gafferlaw15_QuorumEnds.l0 k x0 x1 x2 x4 x11 (((rd_T34 x13 x38).f2) == x11) (x13.set (x38 : Int).toNat (⟨(rd_T34 x13 x38).f0, (rd_T34 x13 x38).f1, x4⟩ : S34)) x37 (wrap64 (x38 + 1))) else (gafferlaw15_QuorumEnds.l0 k x0 x1 x2 x4 x11 (((rd_T34 x13 x38).f2) == x11) x13 x37 (wrap64 (x38 + 1)))) else (none)) else (none))) else (if x12 = true then ((quorum_Settled.f k x0 x1 x2 x13).bind fun t266 => (some (decide (t266 ≥ x11)))) else (some false))
end
def gafferlaw15_QuorumEnds.f (k : Nat) (l0 : List Int) (a1 : Int) (a2 : Int) (l3 : List (S34)) (a4 : Int) : Option (Bool) := (gafferlaw15_most.f k).bind fun t252 => (if t252 = true then ((gafferlaw15_settled.f k).bind fun t253 => (gafferlaw15_QuorumEnds.j0 k l0 a1 a2 l3 a4 (!t253))) else (gafferlaw15_QuorumEnds.j0 k l0 a1 a2 l3 a4 true))
theorem gafferlaw15_QuorumEnds.mono_l : ∀ k, (∀ y0 y1 y2 y3 y4 y5, LeO (gafferlaw15_QuorumEnds.j0 k y0 y1 y2 y3 y4 y5) (gafferlaw15_QuorumEnds.j0 (k + 1) y0 y1 y2 y3 y4 y5)) ∧ (∀ y0 y1 y2 y3 y4 y5 y6, LeO (gafferlaw15_QuorumEnds.j1 k y0 y1 y2 y3 y4 y5 y6) (gafferlaw15_QuorumEnds.j1 (k + 1) y0 y1 y2 y3 y4 y5 y6)) ∧ (∀ y0 y1 y2 y3 y4 y5 y6 y7 y8, LeO (gafferlaw15_QuorumEnds.l0 k y0 y1 y2 y3 y4 y5 y6 y7 y8) (gafferlaw15_QuorumEnds.l0 (k + 1) y0 y1 y2 y3 y4 y5 y6 y7 y8))
 | 0 => ⟨fun _ _ _ _ _ _ r h => by simp [gafferlaw15_QuorumEnds.j0] at h, fun _ _ _ _ _ _ _ r h => by simp [gafferlaw15_QuorumEnds.j1] at h, fun _ _ _ _ _ _ _ _ _ r h => by simp [gafferlaw15_QuorumEnds.l0] at h⟩
 | k + 1 => by
  obtain ⟨ih0, ih1, ih2⟩ := gafferlaw15_QuorumEnds.mono_l k
  refine ⟨?_, ?_, ?_⟩
  ·intro y0 y1 y2 y3 y4 y5
   unfold gafferlaw15_QuorumEnds.j0
   repeat' first
   | (with_reducible exact ih0 _ _ _ _ _ _)
   | (with_reducible exact ih1 _ _ _ _ _ _ _)
   | (with_reducible exact ih2 _ _ _ _ _ _ _ _ _)
   | (with_reducible exact gafferlaw15_most.mono _)
   | (with_reducible exact gafferlaw15_settled.mono _)
   | (with_reducible exact quorum_Settled.mono _ _ _ _ _)
   | (with_reducible exact LeO.refl _)
   | (with_reducible exact LeO.none _)
   | (with_reducible refine LeO.ite ?_ ?_)
   | (with_reducible refine LeO.bind ?_ (fun _ => ?_))
   | exact ih0 _ _ _ _ _ _
   | exact ih1 _ _ _ _ _ _ _
   | exact ih2 _ _ _ _ _ _ _ _ _
   | exact gafferlaw15_most.mono _
   | exact gafferlaw15_settled.mono _
   | exact quorum_Settled.mono _ _ _ _ _
   | exact LeO.none _
   | refine LeO.ite ?_ ?_
   | refine LeO.bind ?_ (fun _ => ?_)
  ·intro y0 y1 y2 y3 y4 y5 y6
   unfold gafferlaw15_QuorumEnds.j1
   repeat' first
   | (with_reducible exact ih0 _ _ _ _ _ _)
   | (with_reducible exact ih1 _ _ _ _ _ _ _)
   | (with_reducible exact ih2 _ _ _ _ _ _ _ _ _)
   | (with_reducible exact gafferlaw15_most.mono _)
   | (with_reducible exact gafferlaw15_settled.mono _)
   | (with_reducible exact quorum_Settled.mono _ _ _ _ _)
   | (with_reducible exact LeO.refl _)
   | (with_reducible exact LeO.none _)
   | (with_reducible refine LeO.ite ?_ ?_)
   | (with_reducible refine LeO.bind ?_ (fun _ => ?_))
   | exact ih0 _ _ _ _ _ _
   | exact ih1 _ _ _ _ _ _ _
   | exact ih2 _ _ _ _ _ _ _ _ _
   | exact gafferlaw15_most.mono _
   | exact gafferlaw15_settled.mono _
   | exact quorum_Settled.mono _ _ _ _ _
   | exact LeO.none _
   | refine LeO.ite ?_ ?_
   | refine LeO.bind ?_ (fun _ => ?_)
  ·intro y0 y1 y2 y3 y4 y5 y6 y7 y8
   unfold gafferlaw15_QuorumEnds.l0
   repeat' first
   | (with_reducible exact ih0 _ _ _ _ _ _)
   | (with_reducible exact ih1 _ _ _ _ _ _ _)
   | (with_reducible exact ih2 _ _ _ _ _ _ _ _ _)
   | (with_reducible exact gafferlaw15_most.mono _)
   | (with_reducible exact gafferlaw15_settled.mono _)
   | (with_reducible exact quorum_Settled.mono _ _ _ _ _)
   | (with_reducible exact LeO.refl _)
   | (with_reducible exact LeO.none _)
   | (with_reducible refine LeO.ite ?_ ?_)
   | (with_reducible refine LeO.bind ?_ (fun _ => ?_))
   | exact ih0 _ _ _ _ _ _
   | exact ih1 _ _ _ _ _ _ _
   | exact ih2 _ _ _ _ _ _ _ _ _
   | exact gafferlaw15_most.mono _
   | exact gafferlaw15_settled.mono _
   | exact quorum_Settled.mono _ _ _ _ _
   | exact LeO.none _
   | refine LeO.ite ?_ ?_
   | refine LeO.bind ?_ (fun _ => ?_)
theorem gafferlaw15_QuorumEnds.mono : ∀ a0 a1 a2 a3 a4 k, LeO (gafferlaw15_QuorumEnds.f k a0 a1 a2 a3 a4) (gafferlaw15_QuorumEnds.f (k + 1) a0 a1 a2 a3 a4) := by
 intro a0 a1 a2 a3 a4 k
 obtain ⟨ih0, ih1, ih2⟩ := gafferlaw15_QuorumEnds.mono_l k
 unfold gafferlaw15_QuorumEnds.f
 repeat' first
   | (with_reducible exact ih0 _ _ _ _ _ _)
   | (with_reducible exact ih1 _ _ _ _ _ _ _)
   | (with_reducible exact ih2 _ _ _ _ _ _ _ _ _)
   | (with_reducible exact gafferlaw15_most.mono _)
   | (with_reducible exact gafferlaw15_settled.mono _)
   | (with_reducible exact quorum_Settled.mono _ _ _ _ _)
   | (with_reducible exact LeO.refl _)
   | (with_reducible exact LeO.none _)
   | (with_reducible refine LeO.ite ?_ ?_)
   | (with_reducible refine LeO.bind ?_ (fun _ => ?_))
   | exact ih0 _ _ _ _ _ _
   | exact ih1 _ _ _ _ _ _ _
   | exact ih2 _ _ _ _ _ _ _ _ _
   | exact gafferlaw15_most.mono _
   | exact gafferlaw15_settled.mono _
   | exact quorum_Settled.mono _ _ _ _ _
   | exact LeO.none _
   | refine LeO.ite ?_ ?_
   | refine LeO.bind ?_ (fun _ => ?_)
set_option maxHeartbeats 80000000 in
set_option maxRecDepth 100000 in
theorem gafferlaw15_QuorumEnds.calls (k : Nat) (A0 : Option Addr) (c0 : Nat) (l0 : List Int) (a1 : Int) (a2 : Int) (A3 : Option Addr) (c3 : Nat) (l3 : List (S34)) (a4 : Int) (r : Bool) (w : World) (hr0 : Kd.C (Kd.int .i64) w A0 l0.length l0) (hc0 : l0.length ≤ c0) (hr3 : Kd.C k34 w A3 l3.length l3) (hc3 : l3.length ≤ c3) (h : gafferlaw15_QuorumEnds.f k l0 a1 a2 l3 a4 = some r) (hr : r = true) :
  Calls Try.prog 9 #[.slice A0 l0.length c0, .int .i64 a1, .int .u64 a2, .slice A3 l3.length c3, .int .u64 a4] w fun e w' => e = .returned (.bool r) ∧ Below w.heap.size w w' := by
 have HR0 := Aside0.mk hr0
 have HC0 := Aside0.mk hc0
 clear hr0 hc0
 have HR3 := Aside0.mk hr3
 have HC3 := Aside0.mk hc3
 clear hr3 hc3
 have HB := Aside0.mk (Below.refl w.heap.size w)
 have H : ((gafferlaw15_most.f k).bind fun t252 => (if t252 = true then ((gafferlaw15_settled.f k).bind fun t253 => (gafferlaw15_QuorumEnds.j0 k l0 a1 a2 l3 a4 (!t253))) else (gafferlaw15_QuorumEnds.j0 k l0 a1 a2 l3 a4 true))) = some r := h
 clear h
 have HC6 := Aside0.mk H
 clear H
 go_enter Try.func9, Try.ntmps9
 go_upto_region 1 with (fail)
 go_cut [20] (fun v20 wc => ∃ (kq : Nat) (x20_5 : Bool), v20 = .bool x20_5 ∧ Aside0 (gafferlaw15_QuorumEnds.j0 kq l0 a1 a2 l3 a4 x20_5 = some r) ∧ Aside0 (kq ≤ k) ∧ Aside0 (Below w.heap.size w wc))
 case first =>
  have H := HC6.out
  clear HC6
  replace H := Option.bind_eq_some_iff.mp H
  obtain ⟨t252, A70, H⟩ := H
  replace H : (if t252 = true then ((gafferlaw15_settled.f k).bind fun t253 => (gafferlaw15_QuorumEnds.j0 k l0 a1 a2 l3 a4 (!t253))) else (gafferlaw15_QuorumEnds.j0 k l0 a1 a2 l3 a4 true)) = some r := H
  have A7 := Aside0.mk A70
  clear A70
  by_cases c8 : t252 = true
  ·subst c8
   have H1 : ((gafferlaw15_settled.f k).bind fun t253 => (gafferlaw15_QuorumEnds.j0 k l0 a1 a2 l3 a4 (!t253))) = some r := by rw [if_pos rfl] at H; exact H
   clear H
   have H := H1
   clear H1
   replace H := Option.bind_eq_some_iff.mp H
   obtain ⟨t253, A90, H⟩ := H
   replace H : (gafferlaw15_QuorumEnds.j0 k l0 a1 a2 l3 a4 (!t253)) = some r := H
   have A9 := Aside0.mk A90
   clear A90
   have H' := Aside0.mk H
   clear H
   go_wp2_with (first | ((with_reducible refine gate_callee (f := 13) rfl ?_); refine goesL_ (some 15) rfl rfl Try.func13 (by kernel_rfl) rfl #[] rfl (ar_) ?_; (with_reducible refine (gafferlaw15_most.calls k  true _ A7.out).mono ?_); rintro e w10 ⟨rfl, hb⟩; refine ⟨_, rfl, ?_⟩; replace HB := Aside0.mk (below_step (bl_ HB) hb); (try clear hb); (try clear hb2); (try clear hk); (try clear hi)) | (go_at_call 10; (with_reducible refine (gafferlaw15_settled.calls k  t253 _ A9.out).mono ?_); rintro e w11 ⟨rfl, hb⟩; replace HB := Aside0.mk (below_step (bl_ HB) hb); (try clear hb); (try clear hb2); (try clear hk); (try clear hi)))
   go_meet
   case rel => exact ⟨_, (!t253), (by first | rfl | (simp; done) | (simp [*]; done)), H', ⟨by first | omega | exact Nat.le_refl _⟩, ⟨bl_ HB⟩⟩
  ·replace c8 := Bool.eq_false_iff.mpr c8
   subst c8
   have H1 : (gafferlaw15_QuorumEnds.j0 k l0 a1 a2 l3 a4 true) = some r := by rw [if_neg (show ¬ (false = true) by decide)] at H; exact H
   clear H
   have H := H1
   clear H1
   have H' := Aside0.mk H
   clear H
   go_wp2_with (first | ((with_reducible refine gate_callee (f := 13) rfl ?_); refine goesL_ (some 15) rfl rfl Try.func13 (by kernel_rfl) rfl #[] rfl (ar_) ?_; (with_reducible refine (gafferlaw15_most.calls k  false _ A7.out).mono ?_); rintro e w12 ⟨rfl, hb⟩; refine ⟨_, rfl, ?_⟩; replace HB := Aside0.mk (below_step (bl_ HB) hb); (try clear hb); (try clear hb2); (try clear hk); (try clear hi)))
   go_meet
   case rel => exact ⟨_, (true), (by first | rfl | (simp; done) | (simp [*]; done)), H', ⟨by first | omega | exact Nat.le_refl _⟩, ⟨bl_ HB⟩⟩
 case rest =>
  clear HC6
  try clear c1
  try clear p2
  try clear c3
  try clear c8
  try clear c9
  obtain ⟨kq, x20_5, rfl, HA, HJ5, HB⟩ := hcut
  cases kq with
  | zero => exact absurd HA.out (by simp [gafferlaw15_QuorumEnds.j0])
  | succ kj5 =>
   have H := HA.out
   clear HA
   simp only [gafferlaw15_QuorumEnds.j0] at H
   by_cases c13 : x20_5 = true
   ·subst c13
    have H1 : (some false) = some r := by rw [if_pos rfl] at H; exact H
    clear H
    have H := H1
    clear H1
    exact absurd (H.trans (congrArg some hr)) (by simp)
   ·replace c13 := Bool.eq_false_iff.mpr c13
    subst c13
    have H1 : ((quorum_Settled.f kj5 l0 a1 a2 l3).bind fun t254 => (if t254 = a2 then (gafferlaw15_QuorumEnds.j1 kj5 l0 a1 a2 l3 a4 t254 true) else (gafferlaw15_QuorumEnds.j1 kj5 l0 a1 a2 l3 a4 t254 (t254 == 0)))) = some r := by rw [if_neg (show ¬ (false = true) by decide)] at H; exact H
    clear H
    have H := H1
    clear H1
    replace H := Option.bind_eq_some_iff.mp H
    obtain ⟨t254, A140, H⟩ := H
    replace H : (if t254 = a2 then (gafferlaw15_QuorumEnds.j1 kj5 l0 a1 a2 l3 a4 t254 true) else (gafferlaw15_QuorumEnds.j1 kj5 l0 a1 a2 l3 a4 t254 (t254 == 0))) = some r := H
    have A14 := Aside0.mk A140
    clear A140
    have HC15 := Aside0.mk H
    clear H
    go_upto_region 4 with (first | ((with_reducible refine gate_callee (f := 11) rfl ?_); refine goesL_ (some 25) rfl rfl Try.func11 (by kernel_rfl) rfl #[.slice A0 l0.length c0, .int .i64 a1, .int .u64 a2, .slice A3 l3.length c3] rfl (ar_) ?_; (with_reducible refine (quorum_Settled.calls kj5 _ _ l0 a1 a2 _ _ l3 t254 _ ?side1 ?side2 ?side3 ?side4 A14.out).mono ?_); (case side1 => repeat (first | exact (Kd.C_below HR0.out HB.out) | (with_reducible refine Kd.C_alloc ?_ _) | (with_reducible refine Kd.C_drewN ?_ _) | (with_reducible refine Kd.C_drew ?_))); (case side2 => exact HC0.out); (case side3 => repeat (first | exact (Kd.C_below HR3.out HB.out) | (with_reducible refine Kd.C_alloc ?_ _) | (with_reducible refine Kd.C_drewN ?_ _) | (with_reducible refine Kd.C_drew ?_))); (case side4 => exact HC3.out); rintro e w16 ⟨rfl, hb⟩; refine ⟨_, rfl, ?_⟩; replace HB := Aside0.mk (below_step (bl_ HB) hb); (try clear hb); (try clear hb2); (try clear hk); (try clear hi)))
    (try simp only [Act.put, List.setIfInBounds_toArray, List.set_cons_zero, List.set_cons_succ])
    go_cut [12] (fun v12 wc => ∃ (kq : Nat) (x12_14 : Bool), v12 = .bool x12_14 ∧ Aside0 (gafferlaw15_QuorumEnds.j1 kq l0 a1 a2 l3 a4 t254 x12_14 = some r) ∧ Aside0 (kq ≤ kj5) ∧ Aside0 (Below w.heap.size w wc))
    case first =>
     have H := HC15.out
     clear HC15
     by_cases c17 : t254 = a2
     ·rw [if_pos c17] at H
      have c17b0 : (t254 == a2) = true := beq_iff_eq.mpr c17
      have c17b1 : (t254 != a2) = false := bne_eq_false_iff_eq.mpr c17
      clear c17
      (first | rw [c17b0] | (simp only [i64_w, i32_w]; rw [c17b0]) | skip)
      have H' := Aside0.mk H
      clear H
      go_wp2
      go_meet
      case rel => exact ⟨_, (true), (by first | rfl | (simp; done) | (simp [*]; done)), H', ⟨by have := HJ5.out; first | omega | exact Nat.le_refl _⟩, ⟨bl_ HB⟩⟩
     ·rw [if_neg c17] at H
      have c17b0 : (t254 == a2) = false := beq_eq_false_iff_ne.mpr c17
      have c17b1 : (t254 != a2) = true := bne_iff_ne.mpr c17
      (first | rw [c17b0] | (simp only [i64_w, i32_w]; rw [c17b0]) | skip)
      have H' := Aside0.mk H
      clear H
      go_wp2
      go_meet
      case rel => exact ⟨_, ((t254 == 0)), (by first | rfl | (simp; done) | (simp [*]; done)), H', ⟨by have := HJ5.out; first | omega | exact Nat.le_refl _⟩, ⟨bl_ HB⟩⟩
    case rest =>
     clear HC15
     try clear c1
     try clear p2
     try clear c3
     try clear c8
     try clear c9
     try clear c11
     try clear c13
     try clear c17
     try clear c17b0
     try clear c17b1
     try clear p2
     obtain ⟨kq, x12_14, rfl, HA, HJ14, HB⟩ := hcut
     cases kq with
     | zero => exact absurd HA.out (by simp [gafferlaw15_QuorumEnds.j1])
     | succ kj14 =>
      have H := HA.out
      clear HA
      simp only [gafferlaw15_QuorumEnds.j1] at H
      obtain ⟨y255, hy255⟩ : ∃ y_ : List (S34), y_ = (([] : List (S34))) := ⟨_, rfl⟩
      replace H : (if y255.length + l3.length < 5864062014805 then ((some (y255 ++ l3 : List (S34))).bind fun y258 => (gafferlaw15_QuorumEnds.l0 kj14 l0 a1 a2 a4 t254 x12_14 y258 (y258.length : Int) 0)) else (none)) = some r := by first | (rw [hy255]; with_reducible exact H) | (have H2_ := (Option.bind_some _ _).symm.trans H; rw [hy255]; with_reducible exact H2_) | (have H2_ := (Option.bind_some _ _).symm.trans H; with_reducible exact H2_) | with_reducible exact H | (rw [hy255]; exact H) | exact H
      have Ny255 := Aside0.mk hy255
      clear hy255
      by_cases c18 : y255.length + l3.length < 5864062014805
      ·rw [if_pos c18] at H
       have LMc18 := Aside0.mk c18
       clear c18
       obtain ⟨y258, hy258⟩ : ∃ y_ : List (S34), y_ = (y255 ++ l3) := ⟨_, rfl⟩
       replace H : (gafferlaw15_QuorumEnds.l0 kj14 l0 a1 a2 a4 t254 x12_14 y258 (y258.length : Int) 0) = some r := by first | (rw [hy258]; with_reducible exact H) | (have H2_ := (Option.bind_some _ _).symm.trans H; rw [hy258]; with_reducible exact H2_) | (have H2_ := (Option.bind_some _ _).symm.trans H; with_reducible exact H2_) | with_reducible exact H | (rw [hy258]; exact H) | exact H
       have Ny258 := Aside0.mk hy258
       clear hy258
       have H' := Aside0.mk H
       clear H
       go_wp2_with (first | ((with_reducible refine gate_dst (N := 33) rfl ?_); refine Kd.R_lit k34 _ 34 ?hg (N := 33) ?hd (xs := ([] : List (S34))) (inner := []) (ok := fun _ => True) (okp := fun _ => True) ?hr ?hp (fun _ hk => hk) trivial (Below.refl _ _) (Nat.le_refl _) (by simp) ?_; (case hd => rfl); (case hg => rfl); (case hr => first | (go_simp; done) | (go_simp; rfl)); (case hp => exact (Reps.none _ _)); intro v256 w19 ho20 hb hg_ hnew_; clear hg_ hnew_; (first | rw [← Ny255.out] at ho20 | (simp only [Int.reduceToNat] at ho20; rw [← Ny255.out] at ho20)); have HO257 := Aside0.mk (Kd.R_lower ho20 (below_size (bl_ HB))); replace HB := Aside0.mk (below_step (bl_ HB) hb); clear hb ho20) | ((with_reducible refine gate_builtin (b := .append) (xs := #[.tmp 33, .tmp 34]) rfl ?_); at_builtin; refine Kd.R_append_rows k34 (w0 := w) w.heap.size rfl (.tmp 33) (.tmp 34) 24 34 (.agg #[(.int .i64 0), (.int .u64 0), (.int .u64 0)]) 24 rfl Try.underlying24 info34 rfl (by decide) (by omega) v256 y255 l3 _ _ _ (fun _ => True) (fun _ => False) rfl rfl ?aO ?aR (fun _ _ h => h) (fun _ h => h.elim) ?aF ?aB ?aS ?aL ?_; (case aR => repeat (first | exact (Kd.C_below HR3.out HB.out) | (with_reducible refine Kd.C_alloc ?_ _) | (with_reducible refine Kd.C_drewN ?_ _) | (with_reducible refine Kd.C_drew ?_))); (case aB => exact (bl_ HB)); (case aF => exact (fun _ _ => trivial)); (case aO => exact (by (with_reducible repeat (first | apply Kd.R_alloc | apply Kd.R_drewN | apply Kd.R_drew)); exact HO257.out)); (case aS => exact (below_size (bl_ HB))); (case aL => have := LMc18.out; omega); intro v259 w21 ho hb hg hat; rw [← Ny258.out] at ho; replace HB := Aside0.mk (hb); have HO260 := Aside0.mk (ho); clear HO257; clear ho hb hg hat; obtain ⟨Ao22, co22, eo22⟩ := Kd.R_slice HO260.out; subst eo22))
       go_loopg [12, 38] kj14 (fun kq v12 v38 w' => ∃ (x12_3 : Bool) (x13_3 : List (S34)) (x38_3 : Int), v12 = .bool x12_3 ∧ v38 = .int .i64 x38_3 ∧ Aside0 (gafferlaw15_QuorumEnds.l0 kq l0 a1 a2 a4 t254 x12_3 x13_3 (y258.length : Int) x38_3 = some r) ∧ Aside0 (kq ≤ kj14) ∧ Aside0 (Kd.R k34 34 w' w.heap.size (fun _ => True) (.slice Ao22 y258.length co22) x13_3) ∧ Aside0 (Below w.heap.size w w'))
       case atStart => exact ⟨(x12_14), (y258), (0), (by first | rfl | (simp; done) | (simp [*]; done)), (by first | rfl | (simp; done) | (simp [*]; done)), H', ⟨Nat.le_refl _⟩, ⟨by (with_reducible repeat (first | apply Kd.R_alloc | apply Kd.R_drewN | apply Kd.R_drew)); exact HO260.out⟩, ⟨bl_ HB⟩⟩
       case round =>
        clear H'
        try clear c1
        try clear p2
        try clear c3
        try clear c8
        try clear c9
        try clear c11
        try clear c13
        try clear c17
        try clear c17b0
        try clear c17b1
        try clear c18
        try clear p2
        obtain ⟨x12_3, x13_3, x38_3, rfl, rfl, HA, HK3, HO_13, HB⟩ := hrel
        have hl13_3 := (Kd.R_reads' HO_13.out).1
        rw [hl13_3] at HO_13
        (try simp only [hl13_3])
        cases gk with
        | zero => exact absurd HA.out (by simp [gafferlaw15_QuorumEnds.l0])
        | succ k3 =>
         have H := HA.out
         clear HA
         simp only [gafferlaw15_QuorumEnds.l0] at H
         by_cases c23 : x38_3 < (y258.length : Int)
         ·rw [if_pos c23] at H
          have c23b0 : decide (x38_3 < (y258.length : Int)) = true := decide_eq_true c23
          (try rw [hl13_3] at c23b0)
          clear c23
          by_cases c24 : x12_3 = true
          ·subst c24
           have H1 : (if 0 ≤ x38_3 then (if x38_3 < (x13_3.length : Int) then (if ((rd_T34 x13_3 x38_3).f2) < a4 then (gafferlaw15_QuorumEnds.l0 k3 l0 a1 a2 a4 t254 true (x13_3.set (x38_3 : Int).toNat (⟨(rd_T34 x13_3 x38_3).f0, (rd_T34 x13_3 x38_3).f1, a4⟩ : S34)) (y258.length : Int) (wrap64 (x38_3 + 1))) else (gafferlaw15_QuorumEnds.l0 k3 l0 a1 a2 a4 t254 true x13_3 (y258.length : Int) (wrap64 (x38_3 + 1)))) else (none)) else (none)) = some r := by rw [if_pos rfl] at H; exact H
           clear H
           have H := H1
           clear H1
           by_cases c25 : 0 ≤ x38_3
           ·rw [if_pos c25] at H
            have c25b0 : decide (0 ≤ x38_3) = true := decide_eq_true c25
            clear c25
            by_cases c26 : x38_3 < (x13_3.length : Int)
            ·rw [if_pos c26] at H
             have c26b0 : decide (x38_3 < (x13_3.length : Int)) = true := decide_eq_true c26
             (try rw [hl13_3] at c26b0)
             clear c26
             by_cases c27 : ((rd_T34 x13_3 x38_3).f2) < a4
             ·rw [if_pos c27] at H
              have c27b0 : decide (((rd_T34 x13_3 x38_3).f2) < a4) = true := decide_eq_true c27
              clear c27
              obtain ⟨y262, hy262⟩ : ∃ y_ : List (S34), y_ = (x13_3.set (x38_3 : Int).toNat (⟨(rd_T34 x13_3 x38_3).f0, (rd_T34 x13_3 x38_3).f1, a4⟩ : S34)) := ⟨_, rfl⟩
              replace H : (gafferlaw15_QuorumEnds.l0 k3 l0 a1 a2 a4 t254 true y262 (y258.length : Int) (wrap64 (x38_3 + 1))) = some r := by first | (rw [hy262]; with_reducible exact H) | (have H2_ := (Option.bind_some _ _).symm.trans H; rw [hy262]; with_reducible exact H2_) | (have H2_ := (Option.bind_some _ _).symm.trans H; with_reducible exact H2_) | with_reducible exact H | (rw [hy262]; exact H) | exact H
              have Ny262 := Aside0.mk hy262
              clear hy262
              have H' := Aside0.mk H
              clear H
              have p261 : 0 ≤ (x38_3 : Int) := of_decide_eq_true (by first | (with_reducible assumption) | assumption)
              have q261 : x38_3 < (x13_3.length : Int) := of_decide_eq_true (by first | (with_reducible assumption) | assumption)
              obtain ⟨ad261, e261, hx261_0, hx261_1, hx261_2⟩ := at_T34 (Kd.R_reads' HO_13.out).2.2 x38_3 p261 q261
              cases e261
              replace p261 := eq_true p261
              replace q261 := eq_true q261
              have p28 : 0 ≤ (x38_3 : Int) := of_decide_eq_true (by first | (with_reducible assumption) | assumption)
              have q28 : (x38_3 : Int) < ((x13_3.length : Int) : Int) := of_decide_eq_true (by first | (with_reducible assumption) | assumption)
              obtain ⟨go28, co28, eo28, gb28, gl28, cl28, HG28⟩ := Kd.R_form HO_13.out (by omega)
              (first | cases eo28 | (injection eo28 with ea_ en_ ec_; (first | subst ea_ | (injection ea_ with ea_; subst ea_)); subst ec_; clear en_))
              have GB28 := Aside0.mk gb28
              have GG28 := Aside0.mk HG28
              clear gb28 gl28 HG28
              (first | simp only [add_plain] at hx261_0 | skip)
              (first | simp only [add_plain] at hx261_1 | skip)
              (first | simp only [add_plain] at hx261_2 | skip)
              obtain ⟨ce28, hcl28, hM28, hcc28, hfr28⟩ := Kd.R_elem HO_13.out z34 (x38_3 : Int) p28 q28
              obtain rfl := k34_openM hM28
              have hx28_0 : wr.cell? ⟨go28, (x38_3 : Int).toNat * 3, none⟩ = some (.int .i64 ((rd_T34 x13_3 x38_3).f0)) := hcc28 0 _ rfl
              have hx28_1 : wr.cell? ⟨go28, (x38_3 : Int).toNat * 3 + 1, none⟩ = some (.int .u64 ((rd_T34 x13_3 x38_3).f1)) := hcc28 1 _ rfl
              have hx28_2 : wr.cell? ⟨go28, (x38_3 : Int).toNat * 3 + 2, none⟩ = some (.int .u64 ((rd_T34 x13_3 x38_3).f2)) := hcc28 2 _ rfl
              have hf28_0 : wr.frozen? ⟨go28, (x38_3 : Int).toNat * 3, none⟩ = false := hfr28 0
              have hf28_1 : wr.frozen? ⟨go28, (x38_3 : Int).toNat * 3 + 1, none⟩ = false := hfr28 1
              have hf28_2 : wr.frozen? ⟨go28, (x38_3 : Int).toNat * 3 + 2, none⟩ = false := hfr28 2
              clear hcl28 hcc28 hfr28 hM28
              replace p28 := eq_true p28
              replace q28 := eq_true q28
              have HX29 := Aside0.mk (show Kd.R k34 34 wr w.heap.size (fun _ => True) (.slice (some ⟨go28, 0, none⟩) x13_3.length co22) x13_3 from (by (with_reducible repeat (first | apply Kd.R_alloc | apply Kd.R_drewN | apply Kd.R_drew)); exact HO_13.out))
              obtain ⟨ce29, hcl29, hM29, hcc29, hfr29⟩ := Kd.R_elem HX29.out z34 (x38_3 : Int) (of_decide_eq_true (by first | (with_reducible assumption) | assumption)) (by have h_ : (x38_3 : Int) < ((x13_3.length : Int) : Int) := of_decide_eq_true (by first | (with_reducible assumption) | assumption); first | exact h_ | (have e_ := (Kd.R_reads' HO_13.out).1; omega) | simpa using h_)
              obtain rfl := k34_openM hM29
              have HP29 := Kd.R_seg HX29.out (x38_3 : Int) (of_decide_eq_true (by first | (with_reducible assumption) | assumption)) (by have h_ : (x38_3 : Int) < ((x13_3.length : Int) : Int) := of_decide_eq_true (by first | (with_reducible assumption) | assumption); first | exact h_ | (have e_ := (Kd.R_reads' HO_13.out).1; omega) | simpa using h_) (seg := [.int .u64 a4]) (j := 2) hcl29 hcc29 (show 3 ≤ 3 from by decide) (x' := (⟨(rd_T34 x13_3 x38_3).f0, (rd_T34 x13_3 x38_3).f1, a4⟩ : S34)) (k34_mkM _ _ _ (⟨(rd_T34 x13_3 x38_3).f0, (rd_T34 x13_3 x38_3).f1, a4⟩ : S34) ) (fun _ hk => hk)
              have hx29_2 := hcc29 2 _ rfl
              (try simp only [show (k34).sz = 3 from rfl, Nat.mul_one, Nat.add_zero] at hx29_2)
              have hf29_2 := hfr29 2
              (try simp only [show (k34).sz = 3 from rfl, Nat.mul_one, Nat.add_zero] at hf29_2)
              clear hcl29 hcc29 hfr29 hM29
              go_wp2_with (first | ((with_reducible refine gate_store (t := 23) (p := 62) rfl ?_); refine store_event (t := 23) (p := 62) (v := ?vo_w30) (w1 := (wr.setCell ⟨go28, (x38_3 : Int).toNat * 3 + 2, none⟩ (.int .u64 a4))) ?hg ?ho ?hn ?hr ?_; (case ho => rfl); (case hg => rfl); (case hn => rfl); (case hr => first | (go_simp; done) | (go_simp; rfl)); intro w30 hw; have hg : wr.grownBy w30 (some go28) := (by rw [hw]; exact HP29.2); have hp_ : Kd.R k34 34 w30 w.heap.size (fun _ => True) (.slice (some ⟨go28, 0, none⟩) x13_3.length co22) y262 := (by rw [hw, Ny262.out]; exact HP29.1); clear HP29; replace HO_13 := Aside0.mk (hp_); replace HB := Aside0.mk ((by rw [hw]; exact below_set (HB.out) GB28.out : Below w.heap.size w w30)); clear hg hw hp_))
              (try simp only [← hl13_3])
              go_roundg k3
              case measure => have := HJ5.out; have := HJ14.out; have := HK3.out; omega
              case rel => exact ⟨(true), (y262), (wrap64 (x38_3 + 1)), (by first | rfl | (simp; done) | (simp [*]; done)), (by first | rfl | (simp; done) | (simp [*]; done)), H', ⟨by have := HJ5.out; have := HJ14.out; have := HK3.out; omega⟩, ⟨by (try simp only [hl13_3]); (with_reducible repeat (first | apply Kd.R_alloc | apply Kd.R_drewN | apply Kd.R_drew)); exact HO_13.out⟩, ⟨bl_ HB⟩⟩
             ·rw [if_neg c27] at H
              have c27b0 : decide (((rd_T34 x13_3 x38_3).f2) < a4) = false := decide_eq_false c27
              clear c27
              have H' := Aside0.mk H
              clear H
              have p261 : 0 ≤ (x38_3 : Int) := of_decide_eq_true (by first | (with_reducible assumption) | assumption)
              have q261 : x38_3 < (x13_3.length : Int) := of_decide_eq_true (by first | (with_reducible assumption) | assumption)
              obtain ⟨ad261, e261, hx261_0, hx261_1, hx261_2⟩ := at_T34 (Kd.R_reads' HO_13.out).2.2 x38_3 p261 q261
              cases e261
              replace p261 := eq_true p261
              replace q261 := eq_true q261
              go_wp2
              (try simp only [← hl13_3])
              go_roundg k3
              case measure => have := HJ5.out; have := HJ14.out; have := HK3.out; omega
              case rel => exact ⟨(true), (x13_3), (wrap64 (x38_3 + 1)), (by first | rfl | (simp; done) | (simp [*]; done)), (by first | rfl | (simp; done) | (simp [*]; done)), H', ⟨by have := HJ5.out; have := HJ14.out; have := HK3.out; omega⟩, ⟨by (try simp only [hl13_3]); (with_reducible repeat (first | apply Kd.R_alloc | apply Kd.R_drewN | apply Kd.R_drew)); exact HO_13.out⟩, ⟨bl_ HB⟩⟩
            ·rw [if_neg c26] at H
             exact absurd H (by simp)
           ·rw [if_neg c25] at H
            exact absurd H (by simp)
          ·replace c24 := Bool.eq_false_iff.mpr c24
           subst c24
           have H1 : (if 0 ≤ x38_3 then (if x38_3 < (x13_3.length : Int) then (if ((rd_T34 x13_3 x38_3).f2) < a4 then (gafferlaw15_QuorumEnds.l0 k3 l0 a1 a2 a4 t254 (((rd_T34 x13_3 x38_3).f2) == t254) (x13_3.set (x38_3 : Int).toNat (⟨(rd_T34 x13_3 x38_3).f0, (rd_T34 x13_3 x38_3).f1, a4⟩ : S34)) (y258.length : Int) (wrap64 (x38_3 + 1))) else (gafferlaw15_QuorumEnds.l0 k3 l0 a1 a2 a4 t254 (((rd_T34 x13_3 x38_3).f2) == t254) x13_3 (y258.length : Int) (wrap64 (x38_3 + 1)))) else (none)) else (none)) = some r := by rw [if_neg (show ¬ (false = true) by decide)] at H; exact H
           clear H
           have H := H1
           clear H1
           by_cases c31 : 0 ≤ x38_3
           ·rw [if_pos c31] at H
            have c31b0 : decide (0 ≤ x38_3) = true := decide_eq_true c31
            clear c31
            by_cases c32 : x38_3 < (x13_3.length : Int)
            ·rw [if_pos c32] at H
             have c32b0 : decide (x38_3 < (x13_3.length : Int)) = true := decide_eq_true c32
             (try rw [hl13_3] at c32b0)
             clear c32
             by_cases c33 : ((rd_T34 x13_3 x38_3).f2) < a4
             ·rw [if_pos c33] at H
              have c33b0 : decide (((rd_T34 x13_3 x38_3).f2) < a4) = true := decide_eq_true c33
              clear c33
              obtain ⟨y265, hy265⟩ : ∃ y_ : List (S34), y_ = (x13_3.set (x38_3 : Int).toNat (⟨(rd_T34 x13_3 x38_3).f0, (rd_T34 x13_3 x38_3).f1, a4⟩ : S34)) := ⟨_, rfl⟩
              replace H : (gafferlaw15_QuorumEnds.l0 k3 l0 a1 a2 a4 t254 (((rd_T34 x13_3 x38_3).f2) == t254) y265 (y258.length : Int) (wrap64 (x38_3 + 1))) = some r := by first | (rw [hy265]; with_reducible exact H) | (have H2_ := (Option.bind_some _ _).symm.trans H; rw [hy265]; with_reducible exact H2_) | (have H2_ := (Option.bind_some _ _).symm.trans H; with_reducible exact H2_) | with_reducible exact H | (rw [hy265]; exact H) | exact H
              have Ny265 := Aside0.mk hy265
              clear hy265
              have H' := Aside0.mk H
              clear H
              have p263 : 0 ≤ (x38_3 : Int) := of_decide_eq_true (by first | (with_reducible assumption) | assumption)
              have q263 : x38_3 < (x13_3.length : Int) := of_decide_eq_true (by first | (with_reducible assumption) | assumption)
              obtain ⟨ad263, e263, hx263_0, hx263_1, hx263_2⟩ := at_T34 (Kd.R_reads' HO_13.out).2.2 x38_3 p263 q263
              cases e263
              replace p263 := eq_true p263
              replace q263 := eq_true q263
              have p264 : 0 ≤ (x38_3 : Int) := of_decide_eq_true (by first | (with_reducible assumption) | assumption)
              have q264 : x38_3 < (x13_3.length : Int) := of_decide_eq_true (by first | (with_reducible assumption) | assumption)
              obtain ⟨ad264, e264, hx264_0, hx264_1, hx264_2⟩ := at_T34 (Kd.R_reads' HO_13.out).2.2 x38_3 p264 q264
              obtain rfl : ad263 = ad264 := (by injection e264)
              replace p264 := eq_true p264
              replace q264 := eq_true q264
              have p34 : 0 ≤ (x38_3 : Int) := of_decide_eq_true (by first | (with_reducible assumption) | assumption)
              have q34 : (x38_3 : Int) < ((x13_3.length : Int) : Int) := of_decide_eq_true (by first | (with_reducible assumption) | assumption)
              obtain ⟨go34, co34, eo34, gb34, gl34, cl34, HG34⟩ := Kd.R_form HO_13.out (by omega)
              (first | cases eo34 | (injection eo34 with ea_ en_ ec_; (first | subst ea_ | (injection ea_ with ea_; subst ea_)); subst ec_; clear en_))
              have GB34 := Aside0.mk gb34
              have GG34 := Aside0.mk HG34
              clear gb34 gl34 HG34
              (first | simp only [add_plain] at hx263_0 | skip)
              (first | simp only [add_plain] at hx263_1 | skip)
              (first | simp only [add_plain] at hx263_2 | skip)
              (first | simp only [add_plain] at hx264_0 | skip)
              (first | simp only [add_plain] at hx264_1 | skip)
              (first | simp only [add_plain] at hx264_2 | skip)
              obtain ⟨ce34, hcl34, hM34, hcc34, hfr34⟩ := Kd.R_elem HO_13.out z34 (x38_3 : Int) p34 q34
              obtain rfl := k34_openM hM34
              have hx34_0 : wr.cell? ⟨go34, (x38_3 : Int).toNat * 3, none⟩ = some (.int .i64 ((rd_T34 x13_3 x38_3).f0)) := hcc34 0 _ rfl
              have hx34_1 : wr.cell? ⟨go34, (x38_3 : Int).toNat * 3 + 1, none⟩ = some (.int .u64 ((rd_T34 x13_3 x38_3).f1)) := hcc34 1 _ rfl
              have hx34_2 : wr.cell? ⟨go34, (x38_3 : Int).toNat * 3 + 2, none⟩ = some (.int .u64 ((rd_T34 x13_3 x38_3).f2)) := hcc34 2 _ rfl
              have hf34_0 : wr.frozen? ⟨go34, (x38_3 : Int).toNat * 3, none⟩ = false := hfr34 0
              have hf34_1 : wr.frozen? ⟨go34, (x38_3 : Int).toNat * 3 + 1, none⟩ = false := hfr34 1
              have hf34_2 : wr.frozen? ⟨go34, (x38_3 : Int).toNat * 3 + 2, none⟩ = false := hfr34 2
              clear hcl34 hcc34 hfr34 hM34
              replace p34 := eq_true p34
              replace q34 := eq_true q34
              have HX35 := Aside0.mk (show Kd.R k34 34 wr w.heap.size (fun _ => True) (.slice (some ⟨go34, 0, none⟩) x13_3.length co22) x13_3 from (by (with_reducible repeat (first | apply Kd.R_alloc | apply Kd.R_drewN | apply Kd.R_drew)); exact HO_13.out))
              obtain ⟨ce35, hcl35, hM35, hcc35, hfr35⟩ := Kd.R_elem HX35.out z34 (x38_3 : Int) (of_decide_eq_true (by first | (with_reducible assumption) | assumption)) (by have h_ : (x38_3 : Int) < ((x13_3.length : Int) : Int) := of_decide_eq_true (by first | (with_reducible assumption) | assumption); first | exact h_ | (have e_ := (Kd.R_reads' HO_13.out).1; omega) | simpa using h_)
              obtain rfl := k34_openM hM35
              have HP35 := Kd.R_seg HX35.out (x38_3 : Int) (of_decide_eq_true (by first | (with_reducible assumption) | assumption)) (by have h_ : (x38_3 : Int) < ((x13_3.length : Int) : Int) := of_decide_eq_true (by first | (with_reducible assumption) | assumption); first | exact h_ | (have e_ := (Kd.R_reads' HO_13.out).1; omega) | simpa using h_) (seg := [.int .u64 a4]) (j := 2) hcl35 hcc35 (show 3 ≤ 3 from by decide) (x' := (⟨(rd_T34 x13_3 x38_3).f0, (rd_T34 x13_3 x38_3).f1, a4⟩ : S34)) (k34_mkM _ _ _ (⟨(rd_T34 x13_3 x38_3).f0, (rd_T34 x13_3 x38_3).f1, a4⟩ : S34) ) (fun _ hk => hk)
              have hx35_2 := hcc35 2 _ rfl
              (try simp only [show (k34).sz = 3 from rfl, Nat.mul_one, Nat.add_zero] at hx35_2)
              have hf35_2 := hfr35 2
              (try simp only [show (k34).sz = 3 from rfl, Nat.mul_one, Nat.add_zero] at hf35_2)
              clear hcl35 hcc35 hfr35 hM35
              go_wp2_with (first | ((with_reducible refine gate_store (t := 23) (p := 62) rfl ?_); refine store_event (t := 23) (p := 62) (v := ?vo_w36) (w1 := (wr.setCell ⟨go34, (x38_3 : Int).toNat * 3 + 2, none⟩ (.int .u64 a4))) ?hg ?ho ?hn ?hr ?_; (case ho => rfl); (case hg => rfl); (case hn => rfl); (case hr => first | (go_simp; done) | (go_simp; rfl)); intro w36 hw; have hg : wr.grownBy w36 (some go34) := (by rw [hw]; exact HP35.2); have hp_ : Kd.R k34 34 w36 w.heap.size (fun _ => True) (.slice (some ⟨go34, 0, none⟩) x13_3.length co22) y265 := (by rw [hw, Ny265.out]; exact HP35.1); clear HP35; replace HO_13 := Aside0.mk (hp_); replace HB := Aside0.mk ((by rw [hw]; exact below_set (HB.out) GB34.out : Below w.heap.size w w36)); clear hg hw hp_))
              (try simp only [← hl13_3])
              go_roundg k3
              case measure => have := HJ5.out; have := HJ14.out; have := HK3.out; omega
              case rel => exact ⟨((((rd_T34 x13_3 x38_3).f2) == t254)), (y265), (wrap64 (x38_3 + 1)), (by first | rfl | (simp; done) | (simp [*]; done)), (by first | rfl | (simp; done) | (simp [*]; done)), H', ⟨by have := HJ5.out; have := HJ14.out; have := HK3.out; omega⟩, ⟨by (try simp only [hl13_3]); (with_reducible repeat (first | apply Kd.R_alloc | apply Kd.R_drewN | apply Kd.R_drew)); exact HO_13.out⟩, ⟨bl_ HB⟩⟩
             ·rw [if_neg c33] at H
              have c33b0 : decide (((rd_T34 x13_3 x38_3).f2) < a4) = false := decide_eq_false c33
              clear c33
              have H' := Aside0.mk H
              clear H
              have p263 : 0 ≤ (x38_3 : Int) := of_decide_eq_true (by first | (with_reducible assumption) | assumption)
              have q263 : x38_3 < (x13_3.length : Int) := of_decide_eq_true (by first | (with_reducible assumption) | assumption)
              obtain ⟨ad263, e263, hx263_0, hx263_1, hx263_2⟩ := at_T34 (Kd.R_reads' HO_13.out).2.2 x38_3 p263 q263
              cases e263
              replace p263 := eq_true p263
              replace q263 := eq_true q263
              have p264 : 0 ≤ (x38_3 : Int) := of_decide_eq_true (by first | (with_reducible assumption) | assumption)
              have q264 : x38_3 < (x13_3.length : Int) := of_decide_eq_true (by first | (with_reducible assumption) | assumption)
              obtain ⟨ad264, e264, hx264_0, hx264_1, hx264_2⟩ := at_T34 (Kd.R_reads' HO_13.out).2.2 x38_3 p264 q264
              obtain rfl : ad263 = ad264 := (by injection e264)
              replace p264 := eq_true p264
              replace q264 := eq_true q264
              go_wp2
              (try simp only [← hl13_3])
              go_roundg k3
              case measure => have := HJ5.out; have := HJ14.out; have := HK3.out; omega
              case rel => exact ⟨((((rd_T34 x13_3 x38_3).f2) == t254)), (x13_3), (wrap64 (x38_3 + 1)), (by first | rfl | (simp; done) | (simp [*]; done)), (by first | rfl | (simp; done) | (simp [*]; done)), H', ⟨by have := HJ5.out; have := HJ14.out; have := HK3.out; omega⟩, ⟨by (try simp only [hl13_3]); (with_reducible repeat (first | apply Kd.R_alloc | apply Kd.R_drewN | apply Kd.R_drew)); exact HO_13.out⟩, ⟨bl_ HB⟩⟩
            ·rw [if_neg c32] at H
             exact absurd H (by simp)
           ·rw [if_neg c31] at H
            exact absurd H (by simp)
         ·rw [if_neg c23] at H
          have c23b0 : decide (x38_3 < (y258.length : Int)) = false := decide_eq_false c23
          (try rw [hl13_3] at c23b0)
          clear c23
          by_cases c37 : x12_3 = true
          ·subst c37
           have H1 : ((quorum_Settled.f k3 l0 a1 a2 x13_3).bind fun t266 => (some (decide (t266 ≥ t254)))) = some r := by rw [if_pos rfl] at H; exact H
           clear H
           have H := H1
           clear H1
           replace H := Option.bind_eq_some_iff.mp H
           obtain ⟨t266, A380, H⟩ := H
           replace H : (some (decide (t266 ≥ t254))) = some r := H
           have A38 := Aside0.mk A380
           clear A380
           obtain rfl := Option.some.inj H
           go_wp2_with (first | (go_at_call 11; (with_reducible refine (quorum_Settled.calls k3 _ _ l0 a1 a2 _ _ x13_3 t266 _ ?side1 ?side2 ?side3 ?side4 A38.out).mono ?_); (case side1 => repeat (first | exact (Kd.C_below HR0.out HB.out) | (with_reducible refine Kd.C_alloc ?_ _) | (with_reducible refine Kd.C_drewN ?_ _) | (with_reducible refine Kd.C_drew ?_))); (case side2 => exact HC0.out); (case side3 => repeat (first | exact (Kd.R_reads' HO_13.out).2.2 | (with_reducible refine Kd.C_alloc ?_ _) | (with_reducible refine Kd.C_drewN ?_ _) | (with_reducible refine Kd.C_drew ?_))); (case side4 => exact (Kd.R_reads' HO_13.out).2.1); rintro e w39 ⟨rfl, hb⟩; replace HO_13 := Aside0.mk (Kd.R_below (by (with_reducible repeat (first | apply Kd.R_alloc | apply Kd.R_drewN | apply Kd.R_drew)); exact HO_13.out) hb); replace HB := Aside0.mk (below_step (bl_ HB) hb); (try clear hb); (try clear hb2); (try clear hk); (try clear hi)))
           go_ret
           exact ⟨by first | rfl | (simp; done) | (simp [*]; done), bl_ HB⟩
          ·replace c37 := Bool.eq_false_iff.mpr c37
           subst c37
           have H1 : (some false) = some r := by rw [if_neg (show ¬ (false = true) by decide)] at H; exact H
           clear H
           have H := H1
           clear H1
           exact absurd (H.trans (congrArg some hr)) (by simp)
      ·rw [if_neg c18] at H
       exact absurd H (by simp)

/-- THE ONE PURE STATEMENT of gafferlaw15_QuorumEnds: yours. -/
def gafferlaw15_QuorumEnds.Pure : Prop := ∀ (x0 : List Int) (x1 : Int) (x2 : Int) (x3 : List (S34)) (x4 : Int), (okSl 8 (okInt .i64)) x0 → (okInt .i64) x1 → (okInt .u64) x2 → (okSl 24 ok34) x3 → (okInt .u64) x4 → ∃ k, gafferlaw15_QuorumEnds.f k x0 x1 x2 x3 x4 = some true

end Go.Proofs.Ytjlhohdfojkogaa.PA
