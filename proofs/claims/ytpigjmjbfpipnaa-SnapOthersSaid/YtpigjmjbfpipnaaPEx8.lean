-- Written for this claim by a program of this session. Lean checks it.
import Derived.Test.YtpigjmjbfpipnaaPEx0
import Derived.Test.YtpigjmjbfpipnaaPEx2
import Derived.Test.YtpigjmjbfpipnaaPEx7
namespace Go.Proofs.Ytpigjmjbfpipnaa.PE
open Go.RowKit Go.Proofs.YtpigjmjbfpipnaaW.PrintWords Go.Proofs.YtpigjmjbfpipnaaW.PrintLast Go.Proofs.YtpigjmjbfpipnaaW.PrintMore Go.Proofs.Ytpigjmjbfpipnaa.Sh Go.Proofs.Ytpigjmjbfpipnaa.Op
attribute [local go_sem] max2_int min2_int max_two min_two max_three min_three max_four min_four   -- for this text's walks alone
set_option linter.unusedVariables false
set_option maxHeartbeats 80000000
set_option maxRecDepth 100000
set_option linter.unusedSimpArgs false

/-! ### disk_change_refused: function 107 -/
mutual
def disk_change_refused.j0 : Nat → Int → Bool → Bool → Int → ByteArray → ByteArray → ByteArray → Int → List (S71) → Bool → Int → Option (Int)
 | 0, _, _, _, _, _, _, _, _, _, _, _ => none
 | k + 1, x5, x6, x14, x231000, x231001, x231002, x231003, x231004, x232000, x232001, x232002 => if x14 = true then (some 5) else (if x231000 = 0 then (if x6 = true then (disk_change_refused.j1 k x5 x6 false x231000 x231001 x231002 x231003 x231004 x232000 x232001 x232002) else (disk_change_refused.j1 k x5 x6 (decide ((x232000.length : Int) ≥ 4096)) x231000 x231001 x231002 x231003 x231004 x232000 x232001 x232002)) else (disk_change_refused.j1 k x5 x6 false x231000 x231001 x231002 x231003 x231004 x232000 x232001 x232002))
def disk_change_refused.j1 : Nat → Int → Bool → Bool → Int → ByteArray → ByteArray → ByteArray → Int → List (S71) → Bool → Int → Option (Int)
 | 0, _, _, _, _, _, _, _, _, _, _, _ => none
 | k + 1, x5, x6, x24, x231000, x231001, x231002, x231003, x231004, x232000, x232001, x232002 => if x24 = true then (some 11) else (if x231000 = 0 then (disk_change_refused.j2 k x5 false x231000 x231001 x231002 x231003 x231004 x232000 x232001 x232002) else (disk_change_refused.j2 k x5 (!x6) x231000 x231001 x231002 x231003 x231004 x232000 x232001 x232002))
def disk_change_refused.j2 : Nat → Int → Bool → Int → ByteArray → ByteArray → ByteArray → Int → List (S71) → Bool → Int → Option (Int)
 | 0, _, _, _, _, _, _, _, _, _, _ => none
 | k + 1, x5, x38, x231000, x231001, x231002, x231003, x231004, x232000, x232001, x232002 => if x38 = true then (some 6) else (if x231000 = 2 then (if x231004 < 0 then (disk_change_refused.j3 k x5 true x231000 x231001 x231002 x231003 x231004 x232000 x232001 x232002) else (if 0 ≤ x5 then (if x5 < (x232000.length : Int) then (disk_change_refused.j3 k x5 (decide (x231004 > (((rd_T71 x232000 x5).f1).size : Int))) x231000 x231001 x231002 x231003 x231004 x232000 x232001 x232002) else (none)) else (none))) else (disk_change_refused.j3 k x5 false x231000 x231001 x231002 x231003 x231004 x232000 x232001 x232002))
def disk_change_refused.j3 : Nat → Int → Bool → Int → ByteArray → ByteArray → ByteArray → Int → List (S71) → Bool → Int → Option (Int)
 | 0, _, _, _, _, _, _, _, _, _, _ => none
 | k + 1, x5, x46, x231000, x231001, x231002, x231003, x231004, x232000, x232001, x232002 => if x46 = true then (some 1) else (if x231000 = 3 then (if 0 ≤ x5 then (if x5 < (x232000.length : Int) then (disk_change_refused.j4 k (decide (((rd_T71 x232000 x5).f2) < (((rd_T71 x232000 x5).f1).size : Int))) x231000 x231001 x231002 x231003 x231004) else (none)) else (none)) else (disk_change_refused.j4 k false x231000 x231001 x231002 x231003 x231004))
def disk_change_refused.j4 : Nat → Bool → Int → ByteArray → ByteArray → ByteArray → Int → Option (Int)
 | 0, _, _, _, _, _, _ => none
 | k + 1, x67, x231000, x231001, x231002, x231003, x231004 => if x67 = true then (some 9) else (if x231000 = 3 then ((disk_named.f x231002).bind fun t238 => (if t238 = true then (some 0) else (some 5))) else (some 0))
end
def disk_change_refused.f (k : Nat) (a0_0 : Int) (a0_1 : ByteArray) (a0_2 : ByteArray) (a0_3 : ByteArray) (a0_4 : Int) (l1_0 : List (S71)) (a1_1 : Bool) (a1_2 : Int) : Option (Int) := (disk_place.f k l1_0 a1_1 a1_2 a0_1).bind fun bt232 => (if a0_0 = 0 then ((disk_named.f a0_1).bind fun t234 => (disk_change_refused.j0 k bt232.1 bt232.2 (!t234) a0_0 a0_1 a0_2 a0_3 a0_4 l1_0 a1_1 a1_2)) else (disk_change_refused.j0 k bt232.1 bt232.2 false a0_0 a0_1 a0_2 a0_3 a0_4 l1_0 a1_1 a1_2))
theorem disk_change_refused.mono_l : ∀ k, (∀ y0 y1 y2 y3 y4 y5 y6 y7 y8 y9 y10, LeO (disk_change_refused.j0 k y0 y1 y2 y3 y4 y5 y6 y7 y8 y9 y10) (disk_change_refused.j0 (k + 1) y0 y1 y2 y3 y4 y5 y6 y7 y8 y9 y10)) ∧ (∀ y0 y1 y2 y3 y4 y5 y6 y7 y8 y9 y10, LeO (disk_change_refused.j1 k y0 y1 y2 y3 y4 y5 y6 y7 y8 y9 y10) (disk_change_refused.j1 (k + 1) y0 y1 y2 y3 y4 y5 y6 y7 y8 y9 y10)) ∧ (∀ y0 y1 y2 y3 y4 y5 y6 y7 y8 y9, LeO (disk_change_refused.j2 k y0 y1 y2 y3 y4 y5 y6 y7 y8 y9) (disk_change_refused.j2 (k + 1) y0 y1 y2 y3 y4 y5 y6 y7 y8 y9)) ∧ (∀ y0 y1 y2 y3 y4 y5 y6 y7 y8 y9, LeO (disk_change_refused.j3 k y0 y1 y2 y3 y4 y5 y6 y7 y8 y9) (disk_change_refused.j3 (k + 1) y0 y1 y2 y3 y4 y5 y6 y7 y8 y9)) ∧ (∀ y0 y1 y2 y3 y4 y5, LeO (disk_change_refused.j4 k y0 y1 y2 y3 y4 y5) (disk_change_refused.j4 (k + 1) y0 y1 y2 y3 y4 y5))
 | 0 => ⟨fun _ _ _ _ _ _ _ _ _ _ _ r h => by simp [disk_change_refused.j0] at h, fun _ _ _ _ _ _ _ _ _ _ _ r h => by simp [disk_change_refused.j1] at h, fun _ _ _ _ _ _ _ _ _ _ r h => by simp [disk_change_refused.j2] at h, fun _ _ _ _ _ _ _ _ _ _ r h => by simp [disk_change_refused.j3] at h, fun _ _ _ _ _ _ r h => by simp [disk_change_refused.j4] at h⟩
 | k + 1 => by
  obtain ⟨ih0, ih1, ih2, ih3, ih4⟩ := disk_change_refused.mono_l k
  refine ⟨?_, ?_, ?_, ?_, ?_⟩
  ·intro y0 y1 y2 y3 y4 y5 y6 y7 y8 y9 y10
   unfold disk_change_refused.j0
   repeat' with_reducible first | exact ih0 _ _ _ _ _ _ _ _ _ _ _ | exact ih1 _ _ _ _ _ _ _ _ _ _ _ | exact ih2 _ _ _ _ _ _ _ _ _ _ | exact ih3 _ _ _ _ _ _ _ _ _ _ | exact ih4 _ _ _ _ _ _ | exact disk_place.mono _ _ _ _ _ | exact LeO.refl _ | exact LeO.none _ | refine LeO.ite ?_ ?_ | refine LeO.bind ?_ (fun _ => ?_)
  ·intro y0 y1 y2 y3 y4 y5 y6 y7 y8 y9 y10
   unfold disk_change_refused.j1
   repeat' with_reducible first | exact ih0 _ _ _ _ _ _ _ _ _ _ _ | exact ih1 _ _ _ _ _ _ _ _ _ _ _ | exact ih2 _ _ _ _ _ _ _ _ _ _ | exact ih3 _ _ _ _ _ _ _ _ _ _ | exact ih4 _ _ _ _ _ _ | exact disk_place.mono _ _ _ _ _ | exact LeO.refl _ | exact LeO.none _ | refine LeO.ite ?_ ?_ | refine LeO.bind ?_ (fun _ => ?_)
  ·intro y0 y1 y2 y3 y4 y5 y6 y7 y8 y9
   unfold disk_change_refused.j2
   repeat' with_reducible first | exact ih0 _ _ _ _ _ _ _ _ _ _ _ | exact ih1 _ _ _ _ _ _ _ _ _ _ _ | exact ih2 _ _ _ _ _ _ _ _ _ _ | exact ih3 _ _ _ _ _ _ _ _ _ _ | exact ih4 _ _ _ _ _ _ | exact disk_place.mono _ _ _ _ _ | exact LeO.refl _ | exact LeO.none _ | refine LeO.ite ?_ ?_ | refine LeO.bind ?_ (fun _ => ?_)
  ·intro y0 y1 y2 y3 y4 y5 y6 y7 y8 y9
   unfold disk_change_refused.j3
   repeat' with_reducible first | exact ih0 _ _ _ _ _ _ _ _ _ _ _ | exact ih1 _ _ _ _ _ _ _ _ _ _ _ | exact ih2 _ _ _ _ _ _ _ _ _ _ | exact ih3 _ _ _ _ _ _ _ _ _ _ | exact ih4 _ _ _ _ _ _ | exact disk_place.mono _ _ _ _ _ | exact LeO.refl _ | exact LeO.none _ | refine LeO.ite ?_ ?_ | refine LeO.bind ?_ (fun _ => ?_)
  ·intro y0 y1 y2 y3 y4 y5
   unfold disk_change_refused.j4
   repeat' with_reducible first | exact ih0 _ _ _ _ _ _ _ _ _ _ _ | exact ih1 _ _ _ _ _ _ _ _ _ _ _ | exact ih2 _ _ _ _ _ _ _ _ _ _ | exact ih3 _ _ _ _ _ _ _ _ _ _ | exact ih4 _ _ _ _ _ _ | exact disk_place.mono _ _ _ _ _ | exact LeO.refl _ | exact LeO.none _ | refine LeO.ite ?_ ?_ | refine LeO.bind ?_ (fun _ => ?_)
theorem disk_change_refused.mono : ∀ a0 a1 a2 a3 a4 a5 a6 a7 k, LeO (disk_change_refused.f k a0 a1 a2 a3 a4 a5 a6 a7) (disk_change_refused.f (k + 1) a0 a1 a2 a3 a4 a5 a6 a7) := by
 intro a0 a1 a2 a3 a4 a5 a6 a7 k
 obtain ⟨ih0, ih1, ih2, ih3, ih4⟩ := disk_change_refused.mono_l k
 unfold disk_change_refused.f
 repeat' with_reducible first | exact ih0 _ _ _ _ _ _ _ _ _ _ _ | exact ih1 _ _ _ _ _ _ _ _ _ _ _ | exact ih2 _ _ _ _ _ _ _ _ _ _ | exact ih3 _ _ _ _ _ _ _ _ _ _ | exact ih4 _ _ _ _ _ _ | exact disk_place.mono _ _ _ _ _ | exact LeO.refl _ | exact LeO.none _ | refine LeO.ite ?_ ?_ | refine LeO.bind ?_ (fun _ => ?_)
theorem disk_change_refused.calls (k : Nat) (a0_0 : Int) (a0_1 : ByteArray) (a0_2 : ByteArray) (a0_3 : ByteArray) (a0_4 : Int) (A1_0 : Option Addr) (c1_0 : Nat) (l1_0 : List (S71)) (a1_1 : Bool) (a1_2 : Int) (r : Int) (w : World) (hr1_0 : Kd.C k71 w A1_0 l1_0.length l1_0) (hc1_0 : l1_0.length ≤ c1_0) (h : disk_change_refused.f k a0_0 a0_1 a0_2 a0_3 a0_4 l1_0 a1_1 a1_2 = some r) :
  Calls Try.prog 107 #[.agg #[.int .u8 a0_0, .string a0_1, .string a0_2, .string a0_3, .int .i64 a0_4], .agg #[.slice A1_0 l1_0.length c1_0, .bool a1_1, .int .i64 a1_2]] w fun e w' => e = .returned (.int .i64 r) ∧ Below w.heap.size w w' := by
 have hu115 := Try.underlying115
 have hu24 := Try.underlying24
 have HR1_0 := a_ hr1_0
 have HC1_0 := a_ hc1_0
 clear hr1_0 hc1_0
 have HB := a_ (Below.refl w.heap.size w)
 have H : ((disk_place.f k l1_0 a1_1 a1_2 a0_1).bind fun bt232 => (if a0_0 = 0 then ((disk_named.f a0_1).bind fun t234 => (disk_change_refused.j0 k bt232.1 bt232.2 (!t234) a0_0 a0_1 a0_2 a0_3 a0_4 l1_0 a1_1 a1_2)) else (disk_change_refused.j0 k bt232.1 bt232.2 false a0_0 a0_1 a0_2 a0_3 a0_4 l1_0 a1_1 a1_2))) = some r := h
 clear h
 obtain ⟨⟨t232, t233⟩, A30, H⟩ := Option.bind_eq_some_iff.mp H
 try dsimp only at H
 have A3 := a_ A30
 clear A30
 have HC4 := a_ H
 clear H
 go_enter Try.func107, Try.ntmps107
 go_upto_region 2 with (first | ((with_reducible refine gd_ 2 ?_); (try (refine gate_guard (by rfl) ?_; dsimp only)); refine bx_ 2 #[.int .u8 a0_0, .string a0_1, .string a0_2, .string a0_3, .int .i64 a0_4] 115 ?_; intro gb230 hg w5 hbox hb; have BK230 := a_ (hbox); have GE230 := a_ (bs_0 hg HB); replace HB := hB_ (bl_ HB) hb; clear hb hbox hg) | ((with_reducible refine gd_ 3 ?_); (try (refine gate_guard (by rfl) ?_; dsimp only)); refine bx_ 3 #[.slice A1_0 l1_0.length c1_0, .bool a1_1, .int .i64 a1_2] 24 ?_; intro gb231 hg w6 hbox hb; have BK231 := a_ (hbox); have GE231 := a_ (bs_1 hg HB GE230); replace HB := hB_ (bl_1 HB GE230) hb; have NB230_231 := nB_ hg BK230; have NB231_230 := nC_ hg BK230; replace BK230 := bB_ BK230 hb; clear hb hbox hg; have hnb7 := NB231_230.out; have hnc7 := NB230_231.out; obtain ⟨hcz8_0, hcz8_1, hcz8_2, hfz8_0, hfz8_1, hfz8_2⟩ := c3_ BK231; obtain ⟨hcz9_0, hcz9_1, hcz9_2, hcz9_3, hcz9_4, hfz9_0, hfz9_1, hfz9_2, hfz9_3, hfz9_4⟩ := c5_ BK230) | (go_at_call 50; (with_reducible refine (disk_place.calls k _ _ l1_0 a1_1 a1_2 a0_1 t232 t233 _ ?side1 ?side2 A3.out).mono ?_); (case side1 => exact cl_ (Kd.C_below HR1_0.out HB.out)); (case side2 => exact HC1_0.out); rintro e w10 ⟨rfl, hb⟩; replace BK230 := bB_ BK230 hb; replace BK231 := bB_ BK231 hb; replace HB := hB_ (bl_2 HB GE230 GE231) hb; (try clear hb)))
 repeat (go_quiet (first | ((with_reducible refine gd_ 2 ?_); (try (refine gate_guard (by rfl) ?_; dsimp only)); refine bx_ 2 #[.int .u8 a0_0, .string a0_1, .string a0_2, .string a0_3, .int .i64 a0_4] 115 ?_; intro gb230 hg w5 hbox hb; have BK230 := a_ (hbox); have GE230 := a_ (bs_0 hg HB); replace HB := hB_ (bl_ HB) hb; clear hb hbox hg) | ((with_reducible refine gd_ 3 ?_); (try (refine gate_guard (by rfl) ?_; dsimp only)); refine bx_ 3 #[.slice A1_0 l1_0.length c1_0, .bool a1_1, .int .i64 a1_2] 24 ?_; intro gb231 hg w6 hbox hb; have BK231 := a_ (hbox); have GE231 := a_ (bs_1 hg HB GE230); replace HB := hB_ (bl_1 HB GE230) hb; have NB230_231 := nB_ hg BK230; have NB231_230 := nC_ hg BK230; replace BK230 := bB_ BK230 hb; clear hb hbox hg; have hnb7 := NB231_230.out; have hnc7 := NB230_231.out; obtain ⟨hcz8_0, hcz8_1, hcz8_2, hfz8_0, hfz8_1, hfz8_2⟩ := c3_ BK231; obtain ⟨hcz9_0, hcz9_1, hcz9_2, hcz9_3, hcz9_4, hfz9_0, hfz9_1, hfz9_2, hfz9_3, hfz9_4⟩ := c5_ BK230) | (go_at_call 50; (with_reducible refine (disk_place.calls k _ _ l1_0 a1_1 a1_2 a0_1 t232 t233 _ ?side1 ?side2 A3.out).mono ?_); (case side1 => exact cl_ (Kd.C_below HR1_0.out HB.out)); (case side2 => exact HC1_0.out); rintro e w10 ⟨rfl, hb⟩; replace BK230 := bB_ BK230 hb; replace BK231 := bB_ BK231 hb; replace HB := hB_ (bl_2 HB GE230 GE231) hb; (try clear hb))); go_upto_region 2 with (first | ((with_reducible refine gd_ 2 ?_); (try (refine gate_guard (by rfl) ?_; dsimp only)); refine bx_ 2 #[.int .u8 a0_0, .string a0_1, .string a0_2, .string a0_3, .int .i64 a0_4] 115 ?_; intro gb230 hg w5 hbox hb; have BK230 := a_ (hbox); have GE230 := a_ (bs_0 hg HB); replace HB := hB_ (bl_ HB) hb; clear hb hbox hg) | ((with_reducible refine gd_ 3 ?_); (try (refine gate_guard (by rfl) ?_; dsimp only)); refine bx_ 3 #[.slice A1_0 l1_0.length c1_0, .bool a1_1, .int .i64 a1_2] 24 ?_; intro gb231 hg w6 hbox hb; have BK231 := a_ (hbox); have GE231 := a_ (bs_1 hg HB GE230); replace HB := hB_ (bl_1 HB GE230) hb; have NB230_231 := nB_ hg BK230; have NB231_230 := nC_ hg BK230; replace BK230 := bB_ BK230 hb; clear hb hbox hg; have hnb7 := NB231_230.out; have hnc7 := NB230_231.out; obtain ⟨hcz8_0, hcz8_1, hcz8_2, hfz8_0, hfz8_1, hfz8_2⟩ := c3_ BK231; obtain ⟨hcz9_0, hcz9_1, hcz9_2, hcz9_3, hcz9_4, hfz9_0, hfz9_1, hfz9_2, hfz9_3, hfz9_4⟩ := c5_ BK230) | (go_at_call 50; (with_reducible refine (disk_place.calls k _ _ l1_0 a1_1 a1_2 a0_1 t232 t233 _ ?side1 ?side2 A3.out).mono ?_); (case side1 => exact cl_ (Kd.C_below HR1_0.out HB.out)); (case side2 => exact HC1_0.out); rintro e w10 ⟨rfl, hb⟩; replace BK230 := bB_ BK230 hb; replace BK231 := bB_ BK231 hb; replace HB := hB_ (bl_2 HB GE230 GE231) hb; (try clear hb))))
 (try simp only [Act.put, List.setIfInBounds_toArray, List.set_cons_zero, List.set_cons_succ])
 go_cut [14] (fun v14 wc => ∃ (kq : Nat) (x14_3 : Bool), v14 = .bool x14_3 ∧ Aside0 (disk_change_refused.j0 kq t232 t233 x14_3 a0_0 a0_1 a0_2 a0_3 a0_4 l1_0 a1_1 a1_2 = some r) ∧ Aside0 (kq ≤ k) ∧ Aside0 (wc.heap[gb230]? = some (.cells #[.int .u8 a0_0, .string a0_1, .string a0_2, .string a0_3, .int .i64 a0_4] 115 (0, 0))) ∧ Aside0 (wc.heap[gb231]? = some (.cells #[(.slice A1_0 l1_0.length c1_0), .bool a1_1, .int .i64 a1_2] 24 (0, 0))) ∧ Aside0 (Below w.heap.size w wc))
 case first =>
  have H := HC4.out
  clear HC4
  by_cases c11 : a0_0 = 0
  rotate_left
  ·rw [if_neg c11] at H
   have c11b0 : (a0_0 == 0) = false := beq_eq_false_iff_ne.mpr c11
   have c11b1 : (a0_0 != 0) = true := bne_iff_ne.mpr c11
   (first | rw [c11b0] | (simp only [i64_w, i32_w]; rw [c11b0]) | skip)
   have H' := a_ H
   clear H
   have hnb15 := NB230_231.out
   have hnc15 := NB231_230.out
   obtain ⟨hcz16_0, hcz16_1, hcz16_2, hcz16_3, hcz16_4, hfz16_0, hfz16_1, hfz16_2, hfz16_3, hfz16_4⟩ := c5_ BK230
   go_wp2
   repeat (go_quiet (fail); try go_wp2)
   go_meet
   case rel => exact ⟨_, (false), fz_, H', ⟨by first | omega | exact Nat.le_refl _⟩, ⟨bk_ BK230⟩, ⟨bk_ BK231⟩, ⟨bl_2 HB GE230 GE231⟩⟩
  rw [if_pos c11] at H
  have c11b0 : (a0_0 == 0) = true := beq_iff_eq.mpr c11
  have c11b1 : (a0_0 != 0) = false := bne_eq_false_iff_eq.mpr c11
  clear c11
  (first | rw [c11b0] | (simp only [i64_w, i32_w]; rw [c11b0]) | skip)
  obtain ⟨t234, A120, H⟩ := Option.bind_eq_some_iff.mp H
  try dsimp only at H
  have A12 := a_ A120
  clear A120
  have H' := a_ H
  clear H
  have hnb13 := NB230_231.out
  have hnc13 := NB231_230.out
  obtain ⟨hcz14_0, hcz14_1, hcz14_2, hcz14_3, hcz14_4, hfz14_0, hfz14_1, hfz14_2, hfz14_3, hfz14_4⟩ := c5_ BK230
  go_wp2_with (first | (first | (go_at_call 111; (with_reducible refine (disk_named.calls a0_1 t234 _ A12.out).mono ?_); rintro e w' ⟨rfl, ⟨nd, rfl⟩⟩; (try first | exact ⟨rfl, _, World.drewN_drewN _ _ _⟩ | exact ⟨rfl, _, Eq.trans (World.drewN_drewN _ _ _) (congrArg (World.drewN _) (Nat.add_assoc _ _ _))⟩))) | go_quiet (first | (go_at_call 111; (with_reducible refine (disk_named.calls a0_1 t234 _ A12.out).mono ?_); rintro e w' ⟨rfl, ⟨nd, rfl⟩⟩; (try first | exact ⟨rfl, _, World.drewN_drewN _ _ _⟩ | exact ⟨rfl, _, Eq.trans (World.drewN_drewN _ _ _) (congrArg (World.drewN _) (Nat.add_assoc _ _ _))⟩))))
  go_meet
  case rel => exact ⟨_, (!t234), fz_, H', ⟨by first | omega | exact Nat.le_refl _⟩, ⟨bk_ BK230⟩, ⟨bk_ BK231⟩, ⟨bl_2 HB GE230 GE231⟩⟩
 case rest =>
  clear HC4
  try clear c1
  try clear p2
  try clear c7
  try clear c10
  try clear c11
  try clear c11b0
  try clear c11b1
  try clear c13
  try clear c15
  obtain ⟨kq, x14_3, rfl, HA, HJ3, BK230, BK231, HB⟩ := hcut
  cases kq with
  | zero => exact absurd HA.out (by simp [disk_change_refused.j0])
  | succ kj3 =>
   have H := HA.out
   clear HA
   simp only [disk_change_refused.j0] at H
   by_cases c17 : x14_3 = true
   ·subst c17
    have H1 : (some 5) = some r := by rw [if_pos rfl] at H; exact H
    clear H
    have H := H1
    clear H1
    obtain rfl := Option.some.inj H
    go_wp2
    repeat (go_quiet (fail); try go_wp2)
    go_ret
    exact ⟨fz_, bl_2 HB GE230 GE231⟩
   replace c17 := Bool.eq_false_iff.mpr c17
   subst c17
   have H1 : (if a0_0 = 0 then (if t233 = true then (disk_change_refused.j1 kj3 t232 t233 false a0_0 a0_1 a0_2 a0_3 a0_4 l1_0 a1_1 a1_2) else (disk_change_refused.j1 kj3 t232 t233 (decide ((l1_0.length : Int) ≥ 4096)) a0_0 a0_1 a0_2 a0_3 a0_4 l1_0 a1_1 a1_2)) else (disk_change_refused.j1 kj3 t232 t233 false a0_0 a0_1 a0_2 a0_3 a0_4 l1_0 a1_1 a1_2)) = some r := by rw [if_neg (show ¬ (false = true) by decide)] at H; exact H
   clear H
   have H := H1
   clear H1
   have HC18 := a_ H
   clear H
   go_upto_region 4 with (fail)
   repeat (go_quiet (fail); go_upto_region 4 with (fail))
   go_cut [24] (fun v24 wc => ∃ (kq : Nat) (x24_17 : Bool), v24 = .bool x24_17 ∧ Aside0 (disk_change_refused.j1 kq t232 t233 x24_17 a0_0 a0_1 a0_2 a0_3 a0_4 l1_0 a1_1 a1_2 = some r) ∧ Aside0 (kq ≤ kj3) ∧ Aside0 (wc.heap[gb230]? = some (.cells #[.int .u8 a0_0, .string a0_1, .string a0_2, .string a0_3, .int .i64 a0_4] 115 (0, 0))) ∧ Aside0 (wc.heap[gb231]? = some (.cells #[(.slice A1_0 l1_0.length c1_0), .bool a1_1, .int .i64 a1_2] 24 (0, 0))) ∧ Aside0 (Below w.heap.size w wc))
   case first =>
    have H := HC18.out
    clear HC18
    by_cases c19 : a0_0 = 0
    rotate_left
    ·rw [if_neg c19] at H
     have c19b0 : (a0_0 == 0) = false := beq_eq_false_iff_ne.mpr c19
     have c19b1 : (a0_0 != 0) = true := bne_iff_ne.mpr c19
     (first | rw [c19b0] | (simp only [i64_w, i32_w]; rw [c19b0]) | skip)
     have H' := a_ H
     clear H
     have hnb26 := NB230_231.out
     have hnc26 := NB231_230.out
     obtain ⟨hcz27_0, hcz27_1, hcz27_2, hcz27_3, hcz27_4, hfz27_0, hfz27_1, hfz27_2, hfz27_3, hfz27_4⟩ := c5_ BK230
     go_wp2
     repeat (go_quiet (fail); try go_wp2)
     go_meet
     case rel => exact ⟨_, (false), fz_, H', ⟨by have := HJ3.out; first | omega | exact Nat.le_refl _⟩, ⟨bk_ BK230⟩, ⟨bk_ BK231⟩, ⟨bl_2 HB GE230 GE231⟩⟩
    rw [if_pos c19] at H
    have c19b0 : (a0_0 == 0) = true := beq_iff_eq.mpr c19
    have c19b1 : (a0_0 != 0) = false := bne_eq_false_iff_eq.mpr c19
    clear c19
    (first | rw [c19b0] | (simp only [i64_w, i32_w]; rw [c19b0]) | skip)
    by_cases c20 : t233 = true
    ·subst c20
     have H1 : (disk_change_refused.j1 kj3 t232 true false a0_0 a0_1 a0_2 a0_3 a0_4 l1_0 a1_1 a1_2) = some r := by rw [if_pos rfl] at H; exact H
     clear H
     have H := H1
     clear H1
     have H' := a_ H
     clear H
     have hnb21 := NB230_231.out
     have hnc21 := NB231_230.out
     obtain ⟨hcz22_0, hcz22_1, hcz22_2, hcz22_3, hcz22_4, hfz22_0, hfz22_1, hfz22_2, hfz22_3, hfz22_4⟩ := c5_ BK230
     go_wp2
     repeat (go_quiet (fail); try go_wp2)
     go_meet
     case rel => exact ⟨_, (false), fz_, H', ⟨by have := HJ3.out; first | omega | exact Nat.le_refl _⟩, ⟨bk_ BK230⟩, ⟨bk_ BK231⟩, ⟨bl_2 HB GE230 GE231⟩⟩
    replace c20 := Bool.eq_false_iff.mpr c20
    subst c20
    have H1 : (disk_change_refused.j1 kj3 t232 false (decide ((l1_0.length : Int) ≥ 4096)) a0_0 a0_1 a0_2 a0_3 a0_4 l1_0 a1_1 a1_2) = some r := by rw [if_neg (show ¬ (false = true) by decide)] at H; exact H
    clear H
    have H := H1
    clear H1
    have H' := a_ H
    clear H
    have hnb23 := NB230_231.out
    have hnc23 := NB231_230.out
    obtain ⟨hcz24_0, hcz24_1, hcz24_2, hcz24_3, hcz24_4, hfz24_0, hfz24_1, hfz24_2, hfz24_3, hfz24_4⟩ := c5_ BK230
    obtain ⟨hcz25_0, hcz25_1, hcz25_2, hfz25_0, hfz25_1, hfz25_2⟩ := c3_ BK231
    go_wp2
    repeat (go_quiet (fail); try go_wp2)
    go_meet
    case rel => exact ⟨_, (decide ((l1_0.length : Int) ≥ 4096)), fz_, H', ⟨by have := HJ3.out; first | omega | exact Nat.le_refl _⟩, ⟨bk_ BK230⟩, ⟨bk_ BK231⟩, ⟨bl_2 HB GE230 GE231⟩⟩
   case rest =>
    clear HC18
    try clear c1
    try clear c2
    try clear p2
    try clear c7
    try clear c10
    try clear c11
    try clear c11b0
    try clear c11b1
    try clear c13
    try clear c15
    try clear c17
    try clear c19
    try clear c19b0
    try clear c19b1
    try clear c20
    try clear c21
    try clear c23
    try clear c26
    try clear p2
    obtain ⟨kq, x24_17, rfl, HA, HJ17, BK230, BK231, HB⟩ := hcut
    cases kq with
    | zero => exact absurd HA.out (by simp [disk_change_refused.j1])
    | succ kj17 =>
     have H := HA.out
     clear HA
     simp only [disk_change_refused.j1] at H
     by_cases c28 : x24_17 = true
     ·subst c28
      have H1 : (some 11) = some r := by rw [if_pos rfl] at H; exact H
      clear H
      have H := H1
      clear H1
      obtain rfl := Option.some.inj H
      go_wp2
      repeat (go_quiet (fail); try go_wp2)
      go_ret
      exact ⟨fz_, bl_2 HB GE230 GE231⟩
     replace c28 := Bool.eq_false_iff.mpr c28
     subst c28
     have H1 : (if a0_0 = 0 then (disk_change_refused.j2 kj17 t232 false a0_0 a0_1 a0_2 a0_3 a0_4 l1_0 a1_1 a1_2) else (disk_change_refused.j2 kj17 t232 (!t233) a0_0 a0_1 a0_2 a0_3 a0_4 l1_0 a1_1 a1_2)) = some r := by rw [if_neg (show ¬ (false = true) by decide)] at H; exact H
     clear H
     have H := H1
     clear H1
     have HC29 := a_ H
     clear H
     go_upto_region 6 with (fail)
     repeat (go_quiet (fail); go_upto_region 6 with (fail))
     go_cut [38] (fun v38 wc => ∃ (kq : Nat) (x38_28 : Bool), v38 = .bool x38_28 ∧ Aside0 (disk_change_refused.j2 kq t232 x38_28 a0_0 a0_1 a0_2 a0_3 a0_4 l1_0 a1_1 a1_2 = some r) ∧ Aside0 (kq ≤ kj17) ∧ Aside0 (wc.heap[gb230]? = some (.cells #[.int .u8 a0_0, .string a0_1, .string a0_2, .string a0_3, .int .i64 a0_4] 115 (0, 0))) ∧ Aside0 (wc.heap[gb231]? = some (.cells #[(.slice A1_0 l1_0.length c1_0), .bool a1_1, .int .i64 a1_2] 24 (0, 0))) ∧ Aside0 (Below w.heap.size w wc))
     case first =>
      have H := HC29.out
      clear HC29
      by_cases c30 : a0_0 = 0
      rotate_left
      ·rw [if_neg c30] at H
       have c30b0 : (a0_0 == 0) = false := beq_eq_false_iff_ne.mpr c30
       have c30b1 : (a0_0 != 0) = true := bne_iff_ne.mpr c30
       (first | rw [c30b0] | (simp only [i64_w, i32_w]; rw [c30b0]) | skip)
       have H' := a_ H
       clear H
       have hnb33 := NB230_231.out
       have hnc33 := NB231_230.out
       obtain ⟨hcz34_0, hcz34_1, hcz34_2, hcz34_3, hcz34_4, hfz34_0, hfz34_1, hfz34_2, hfz34_3, hfz34_4⟩ := c5_ BK230
       go_wp2
       repeat (go_quiet (fail); try go_wp2)
       go_meet
       case rel => exact ⟨_, (!t233), fz_, H', ⟨by have := HJ3.out; have := HJ17.out; first | omega | exact Nat.le_refl _⟩, ⟨bk_ BK230⟩, ⟨bk_ BK231⟩, ⟨bl_2 HB GE230 GE231⟩⟩
      rw [if_pos c30] at H
      have c30b0 : (a0_0 == 0) = true := beq_iff_eq.mpr c30
      have c30b1 : (a0_0 != 0) = false := bne_eq_false_iff_eq.mpr c30
      clear c30
      (first | rw [c30b0] | (simp only [i64_w, i32_w]; rw [c30b0]) | skip)
      have H' := a_ H
      clear H
      have hnb31 := NB230_231.out
      have hnc31 := NB231_230.out
      obtain ⟨hcz32_0, hcz32_1, hcz32_2, hcz32_3, hcz32_4, hfz32_0, hfz32_1, hfz32_2, hfz32_3, hfz32_4⟩ := c5_ BK230
      go_wp2
      repeat (go_quiet (fail); try go_wp2)
      go_meet
      case rel => exact ⟨_, (false), fz_, H', ⟨by have := HJ3.out; have := HJ17.out; first | omega | exact Nat.le_refl _⟩, ⟨bk_ BK230⟩, ⟨bk_ BK231⟩, ⟨bl_2 HB GE230 GE231⟩⟩
     case rest =>
      clear HC29
      try clear c1
      try clear c2
      try clear p2
      try clear c3
      try clear c7
      try clear c10
      try clear c11
      try clear c11b0
      try clear c11b1
      try clear c13
      try clear c15
      try clear c17
      try clear c19
      try clear c19b0
      try clear c19b1
      try clear c20
      try clear c21
      try clear c23
      try clear c26
      try clear c28
      try clear c30
      try clear c30b0
      try clear c30b1
      try clear c31
      try clear c33
      try clear p2
      obtain ⟨kq, x38_28, rfl, HA, HJ28, BK230, BK231, HB⟩ := hcut
      cases kq with
      | zero => exact absurd HA.out (by simp [disk_change_refused.j2])
      | succ kj28 =>
       have H := HA.out
       clear HA
       simp only [disk_change_refused.j2] at H
       by_cases c35 : x38_28 = true
       ·subst c35
        have H1 : (some 6) = some r := by rw [if_pos rfl] at H; exact H
        clear H
        have H := H1
        clear H1
        obtain rfl := Option.some.inj H
        go_wp2
        repeat (go_quiet (fail); try go_wp2)
        go_ret
        exact ⟨fz_, bl_2 HB GE230 GE231⟩
       replace c35 := Bool.eq_false_iff.mpr c35
       subst c35
       have H1 : (if a0_0 = 2 then (if a0_4 < 0 then (disk_change_refused.j3 kj28 t232 true a0_0 a0_1 a0_2 a0_3 a0_4 l1_0 a1_1 a1_2) else (if 0 ≤ t232 then (if t232 < (l1_0.length : Int) then (disk_change_refused.j3 kj28 t232 (decide (a0_4 > (((rd_T71 l1_0 t232).f1).size : Int))) a0_0 a0_1 a0_2 a0_3 a0_4 l1_0 a1_1 a1_2) else (none)) else (none))) else (disk_change_refused.j3 kj28 t232 false a0_0 a0_1 a0_2 a0_3 a0_4 l1_0 a1_1 a1_2)) = some r := by rw [if_neg (show ¬ (false = true) by decide)] at H; exact H
       clear H
       have H := H1
       clear H1
       have HC36 := a_ H
       clear H
       go_upto_region 8 with (fail)
       repeat (go_quiet (fail); go_upto_region 8 with (fail))
       go_cut [46] (fun v46 wc => ∃ (kq : Nat) (x46_35 : Bool), v46 = .bool x46_35 ∧ Aside0 (disk_change_refused.j3 kq t232 x46_35 a0_0 a0_1 a0_2 a0_3 a0_4 l1_0 a1_1 a1_2 = some r) ∧ Aside0 (kq ≤ kj28) ∧ Aside0 (wc.heap[gb230]? = some (.cells #[.int .u8 a0_0, .string a0_1, .string a0_2, .string a0_3, .int .i64 a0_4] 115 (0, 0))) ∧ Aside0 (wc.heap[gb231]? = some (.cells #[(.slice A1_0 l1_0.length c1_0), .bool a1_1, .int .i64 a1_2] 24 (0, 0))) ∧ Aside0 (Below w.heap.size w wc))
       case first =>
        have H := HC36.out
        clear HC36
        by_cases c37 : a0_0 = 2
        rotate_left
        ·rw [if_neg c37] at H
         have c37b0 : (a0_0 == 2) = false := beq_eq_false_iff_ne.mpr c37
         have c37b1 : (a0_0 != 2) = true := bne_iff_ne.mpr c37
         (first | rw [c37b0] | (simp only [i64_w, i32_w]; rw [c37b0]) | skip)
         have H' := a_ H
         clear H
         have hnb46 := NB230_231.out
         have hnc46 := NB231_230.out
         obtain ⟨hcz47_0, hcz47_1, hcz47_2, hcz47_3, hcz47_4, hfz47_0, hfz47_1, hfz47_2, hfz47_3, hfz47_4⟩ := c5_ BK230
         go_wp2
         repeat (go_quiet (fail); try go_wp2)
         go_meet
         case rel => exact ⟨_, (false), fz_, H', ⟨by have := HJ3.out; have := HJ17.out; have := HJ28.out; first | omega | exact Nat.le_refl _⟩, ⟨bk_ BK230⟩, ⟨bk_ BK231⟩, ⟨bl_2 HB GE230 GE231⟩⟩
        rw [if_pos c37] at H
        have c37b0 : (a0_0 == 2) = true := beq_iff_eq.mpr c37
        have c37b1 : (a0_0 != 2) = false := bne_eq_false_iff_eq.mpr c37
        clear c37
        (first | rw [c37b0] | (simp only [i64_w, i32_w]; rw [c37b0]) | skip)
        by_cases c38 : a0_4 < 0
        ·rw [if_pos c38] at H
         have c38b0 : decide (a0_4 < 0) = true := decide_eq_true c38
         clear c38
         have H' := a_ H
         clear H
         have hnb39 := NB230_231.out
         have hnc39 := NB231_230.out
         obtain ⟨hcz40_0, hcz40_1, hcz40_2, hcz40_3, hcz40_4, hfz40_0, hfz40_1, hfz40_2, hfz40_3, hfz40_4⟩ := c5_ BK230
         go_wp2
         repeat (go_quiet (fail); try go_wp2)
         go_meet
         case rel => exact ⟨_, (true), fz_, H', ⟨by have := HJ3.out; have := HJ17.out; have := HJ28.out; first | omega | exact Nat.le_refl _⟩, ⟨bk_ BK230⟩, ⟨bk_ BK231⟩, ⟨bl_2 HB GE230 GE231⟩⟩
        rw [if_neg c38] at H
        have c38b0 : decide (a0_4 < 0) = false := decide_eq_false c38
        clear c38
        by_cases c41 : 0 ≤ t232
        rotate_left
        ·rw [if_neg c41] at H
         exact absurd H (by simp)
        rw [if_pos c41] at H
        have c41b0 : decide (0 ≤ t232) = true := decide_eq_true c41
        clear c41
        by_cases c42 : t232 < (l1_0.length : Int)
        rotate_left
        ·rw [if_neg c42] at H
         exact absurd H (by simp)
        rw [if_pos c42] at H
        have c42b0 : decide (t232 < (l1_0.length : Int)) = true := decide_eq_true c42
        clear c42
        have H' := a_ H
        clear H
        have hnb43 := NB230_231.out
        have hnc43 := NB231_230.out
        obtain ⟨hcz44_0, hcz44_1, hcz44_2, hcz44_3, hcz44_4, hfz44_0, hfz44_1, hfz44_2, hfz44_3, hfz44_4⟩ := c5_ BK230
        obtain ⟨hcz45_0, hcz45_1, hcz45_2, hfz45_0, hfz45_1, hfz45_2⟩ := c3_ BK231
        have p235 : 0 ≤ (t232 : Int) := od_
        have q235 : t232 < (l1_0.length : Int) := od_
        obtain ⟨ad235, e235, hx235_0, hx235_1, hx235_2⟩ := at_T71 HR1_0.out t232 p235 q235
        cases e235
        replace hx235_0 := hc_ HB hx235_0
        replace hx235_1 := hc_ HB hx235_1
        replace hx235_2 := hc_ HB hx235_2
        replace p235 := eq_true p235
        replace q235 := eq_true q235
        go_wp2
        repeat (go_quiet (fail); try go_wp2)
        go_meet
        case rel => exact ⟨_, (decide (a0_4 > (((rd_T71 l1_0 t232).f1).size : Int))), fz_, H', ⟨by have := HJ3.out; have := HJ17.out; have := HJ28.out; first | omega | exact Nat.le_refl _⟩, ⟨bk_ BK230⟩, ⟨bk_ BK231⟩, ⟨bl_2 HB GE230 GE231⟩⟩
       case rest =>
        clear HC36
        try clear c1
        try clear c2
        try clear p2
        try clear q2
        try clear hx2
        try clear c3
        try clear c4
        try clear c7
        try clear c10
        try clear c11
        try clear c11b0
        try clear c11b1
        try clear c13
        try clear c15
        try clear c17
        try clear c19
        try clear c19b0
        try clear c19b1
        try clear c20
        try clear c21
        try clear c23
        try clear p23
        try clear q23
        try clear hx23
        try clear c26
        try clear c28
        try clear c30
        try clear c30b0
        try clear c30b1
        try clear c31
        try clear c33
        try clear c35
        try clear c37
        try clear c37b0
        try clear c37b1
        try clear c38
        try clear c38b0
        try clear c39
        try clear c41
        try clear c41b0
        try clear c42
        try clear c42b0
        try clear c43
        try clear c46
        try clear hx235_0
        try clear hx235_1
        try clear hx235_2
        try clear p2
        try clear p235
        try clear q235
        obtain ⟨kq, x46_35, rfl, HA, HJ35, BK230, BK231, HB⟩ := hcut
        cases kq with
        | zero => exact absurd HA.out (by simp [disk_change_refused.j3])
        | succ kj35 =>
         have H := HA.out
         clear HA
         simp only [disk_change_refused.j3] at H
         by_cases c48 : x46_35 = true
         ·subst c48
          have H1 : (some 1) = some r := by rw [if_pos rfl] at H; exact H
          clear H
          have H := H1
          clear H1
          obtain rfl := Option.some.inj H
          go_wp2
          repeat (go_quiet (fail); try go_wp2)
          go_ret
          exact ⟨fz_, bl_2 HB GE230 GE231⟩
         replace c48 := Bool.eq_false_iff.mpr c48
         subst c48
         have H1 : (if a0_0 = 3 then (if 0 ≤ t232 then (if t232 < (l1_0.length : Int) then (disk_change_refused.j4 kj35 (decide (((rd_T71 l1_0 t232).f2) < (((rd_T71 l1_0 t232).f1).size : Int))) a0_0 a0_1 a0_2 a0_3 a0_4) else (none)) else (none)) else (disk_change_refused.j4 kj35 false a0_0 a0_1 a0_2 a0_3 a0_4)) = some r := by rw [if_neg (show ¬ (false = true) by decide)] at H; exact H
         clear H
         have H := H1
         clear H1
         have HC49 := a_ H
         clear H
         go_upto_region 10 with (fail)
         repeat (go_quiet (fail); go_upto_region 10 with (fail))
         go_cut [67] (fun v67 wc => ∃ (kq : Nat) (x67_48 : Bool), v67 = .bool x67_48 ∧ Aside0 (disk_change_refused.j4 kq x67_48 a0_0 a0_1 a0_2 a0_3 a0_4 = some r) ∧ Aside0 (kq ≤ kj35) ∧ Aside0 (wc.heap[gb230]? = some (.cells #[.int .u8 a0_0, .string a0_1, .string a0_2, .string a0_3, .int .i64 a0_4] 115 (0, 0))) ∧ Aside0 (wc.heap[gb231]? = some (.cells #[(.slice A1_0 l1_0.length c1_0), .bool a1_1, .int .i64 a1_2] 24 (0, 0))) ∧ Aside0 (Below w.heap.size w wc))
         case first =>
          have H := HC49.out
          clear HC49
          by_cases c50 : a0_0 = 3
          rotate_left
          ·rw [if_neg c50] at H
           have c50b0 : (a0_0 == 3) = false := beq_eq_false_iff_ne.mpr c50
           have c50b1 : (a0_0 != 3) = true := bne_iff_ne.mpr c50
           (first | rw [c50b0] | (simp only [i64_w, i32_w]; rw [c50b0]) | skip)
           have H' := a_ H
           clear H
           have hnb56 := NB230_231.out
           have hnc56 := NB231_230.out
           obtain ⟨hcz57_0, hcz57_1, hcz57_2, hcz57_3, hcz57_4, hfz57_0, hfz57_1, hfz57_2, hfz57_3, hfz57_4⟩ := c5_ BK230
           go_wp2
           repeat (go_quiet (fail); try go_wp2)
           go_meet
           case rel => exact ⟨_, (false), fz_, H', ⟨by have := HJ3.out; have := HJ17.out; have := HJ28.out; have := HJ35.out; first | omega | exact Nat.le_refl _⟩, ⟨bk_ BK230⟩, ⟨bk_ BK231⟩, ⟨bl_2 HB GE230 GE231⟩⟩
          rw [if_pos c50] at H
          have c50b0 : (a0_0 == 3) = true := beq_iff_eq.mpr c50
          have c50b1 : (a0_0 != 3) = false := bne_eq_false_iff_eq.mpr c50
          clear c50
          (first | rw [c50b0] | (simp only [i64_w, i32_w]; rw [c50b0]) | skip)
          by_cases c51 : 0 ≤ t232
          rotate_left
          ·rw [if_neg c51] at H
           exact absurd H (by simp)
          rw [if_pos c51] at H
          have c51b0 : decide (0 ≤ t232) = true := decide_eq_true c51
          clear c51
          by_cases c52 : t232 < (l1_0.length : Int)
          rotate_left
          ·rw [if_neg c52] at H
           exact absurd H (by simp)
          rw [if_pos c52] at H
          have c52b0 : decide (t232 < (l1_0.length : Int)) = true := decide_eq_true c52
          clear c52
          have H' := a_ H
          clear H
          have hnb53 := NB230_231.out
          have hnc53 := NB231_230.out
          obtain ⟨hcz54_0, hcz54_1, hcz54_2, hcz54_3, hcz54_4, hfz54_0, hfz54_1, hfz54_2, hfz54_3, hfz54_4⟩ := c5_ BK230
          obtain ⟨hcz55_0, hcz55_1, hcz55_2, hfz55_0, hfz55_1, hfz55_2⟩ := c3_ BK231
          have p236 : 0 ≤ (t232 : Int) := od_
          have q236 : t232 < (l1_0.length : Int) := od_
          obtain ⟨ad236, e236, hx236_0, hx236_1, hx236_2⟩ := at_T71 HR1_0.out t232 p236 q236
          cases e236
          replace hx236_0 := hc_ HB hx236_0
          replace hx236_1 := hc_ HB hx236_1
          replace hx236_2 := hc_ HB hx236_2
          replace p236 := eq_true p236
          replace q236 := eq_true q236
          have p237 : 0 ≤ (t232 : Int) := od_
          have q237 : t232 < (l1_0.length : Int) := od_
          obtain ⟨ad237, e237, hx237_0, hx237_1, hx237_2⟩ := at_T71 HR1_0.out t232 p237 q237
          obtain rfl : ad236 = ad237 := (by injection e237)
          replace hx237_0 := hc_ HB hx237_0
          replace hx237_1 := hc_ HB hx237_1
          replace hx237_2 := hc_ HB hx237_2
          replace p237 := eq_true p237
          replace q237 := eq_true q237
          go_wp2
          repeat (go_quiet (fail); try go_wp2)
          go_meet
          case rel => exact ⟨_, (decide (((rd_T71 l1_0 t232).f2) < (((rd_T71 l1_0 t232).f1).size : Int))), fz_, H', ⟨by have := HJ3.out; have := HJ17.out; have := HJ28.out; have := HJ35.out; first | omega | exact Nat.le_refl _⟩, ⟨bk_ BK230⟩, ⟨bk_ BK231⟩, ⟨bl_2 HB GE230 GE231⟩⟩
         case rest =>
          clear HC49
          try clear c1
          try clear c2
          try clear p2
          try clear q2
          try clear hx2
          try clear c3
          try clear c4
          try clear c5
          try clear c7
          try clear c10
          try clear c11
          try clear c11b0
          try clear c11b1
          try clear c13
          try clear c15
          try clear c17
          try clear c19
          try clear c19b0
          try clear c19b1
          try clear c20
          try clear c21
          try clear c23
          try clear p23
          try clear q23
          try clear hx23
          try clear c26
          try clear c28
          try clear c30
          try clear c30b0
          try clear c30b1
          try clear c31
          try clear c33
          try clear c35
          try clear c37
          try clear c37b0
          try clear c37b1
          try clear c38
          try clear c38b0
          try clear c39
          try clear c41
          try clear c41b0
          try clear c42
          try clear c42b0
          try clear c43
          try clear c46
          try clear c48
          try clear c50
          try clear c50b0
          try clear c50b1
          try clear c51
          try clear c51b0
          try clear c52
          try clear c52b0
          try clear c53
          try clear c56
          try clear hx235_0
          try clear hx235_1
          try clear hx235_2
          try clear hx236_0
          try clear hx236_1
          try clear hx236_2
          try clear hx237_0
          try clear hx237_1
          try clear hx237_2
          try clear p2
          try clear p23
          try clear p235
          try clear p236
          try clear p237
          try clear q2
          try clear q23
          try clear q235
          try clear q236
          try clear q237
          obtain ⟨kq, x67_48, rfl, HA, HJ48, BK230, BK231, HB⟩ := hcut
          cases kq with
          | zero => exact absurd HA.out (by simp [disk_change_refused.j4])
          | succ kj48 =>
           have H := HA.out
           clear HA
           simp only [disk_change_refused.j4] at H
           by_cases c58 : x67_48 = true
           ·subst c58
            have H1 : (some 9) = some r := by rw [if_pos rfl] at H; exact H
            clear H
            have H := H1
            clear H1
            obtain rfl := Option.some.inj H
            go_wp2
            repeat (go_quiet (fail); try go_wp2)
            go_ret
            exact ⟨fz_, bl_2 HB GE230 GE231⟩
           replace c58 := Bool.eq_false_iff.mpr c58
           subst c58
           have H1 : (if a0_0 = 3 then ((disk_named.f a0_2).bind fun t238 => (if t238 = true then (some 0) else (some 5))) else (some 0)) = some r := by rw [if_neg (show ¬ (false = true) by decide)] at H; exact H
           clear H
           have H := H1
           clear H1
           by_cases c59 : a0_0 = 3
           rotate_left
           ·rw [if_neg c59] at H
            have c59b0 : (a0_0 == 3) = false := beq_eq_false_iff_ne.mpr c59
            have c59b1 : (a0_0 != 3) = true := bne_iff_ne.mpr c59
            obtain rfl := Option.some.inj H
            have hnb66 := NB230_231.out
            have hnc66 := NB231_230.out
            obtain ⟨hcz67_0, hcz67_1, hcz67_2, hcz67_3, hcz67_4, hfz67_0, hfz67_1, hfz67_2, hfz67_3, hfz67_4⟩ := c5_ BK230
            go_wp2
            repeat (go_quiet (fail); try go_wp2)
            go_ret
            exact ⟨fz_, bl_2 HB GE230 GE231⟩


           rw [if_pos c59] at H
           have c59b0 : (a0_0 == 3) = true := beq_iff_eq.mpr c59
           have c59b1 : (a0_0 != 3) = false := bne_eq_false_iff_eq.mpr c59
           clear c59
           obtain ⟨t238, A600, H⟩ := Option.bind_eq_some_iff.mp H
           try dsimp only at H
           have A60 := a_ A600
           clear A600
           by_cases c61 : t238 = true
           ·subst c61
            have H1 : (some 0) = some r := by rw [if_pos rfl] at H; exact H
            clear H
            have H := H1
            clear H1
            obtain rfl := Option.some.inj H
            have hnb62 := NB230_231.out
            have hnc62 := NB231_230.out
            obtain ⟨hcz63_0, hcz63_1, hcz63_2, hcz63_3, hcz63_4, hfz63_0, hfz63_1, hfz63_2, hfz63_3, hfz63_4⟩ := c5_ BK230
            go_wp2_with (first | (first | (go_at_call 111; (with_reducible refine (disk_named.calls a0_2 true _ A60.out).mono ?_); rintro e w' ⟨rfl, ⟨nd, rfl⟩⟩; (try first | exact ⟨rfl, _, World.drewN_drewN _ _ _⟩ | exact ⟨rfl, _, Eq.trans (World.drewN_drewN _ _ _) (congrArg (World.drewN _) (Nat.add_assoc _ _ _))⟩))) | go_quiet (first | (go_at_call 111; (with_reducible refine (disk_named.calls a0_2 true _ A60.out).mono ?_); rintro e w' ⟨rfl, ⟨nd, rfl⟩⟩; (try first | exact ⟨rfl, _, World.drewN_drewN _ _ _⟩ | exact ⟨rfl, _, Eq.trans (World.drewN_drewN _ _ _) (congrArg (World.drewN _) (Nat.add_assoc _ _ _))⟩))))
            go_ret
            exact ⟨fz_, bl_2 HB GE230 GE231⟩
           replace c61 := Bool.eq_false_iff.mpr c61
           subst c61
           have H1 : (some 5) = some r := by rw [if_neg (show ¬ (false = true) by decide)] at H; exact H
           clear H
           have H := H1
           clear H1
           obtain rfl := Option.some.inj H
           have hnb64 := NB230_231.out
           have hnc64 := NB231_230.out
           obtain ⟨hcz65_0, hcz65_1, hcz65_2, hcz65_3, hcz65_4, hfz65_0, hfz65_1, hfz65_2, hfz65_3, hfz65_4⟩ := c5_ BK230
           go_wp2_with (first | (first | (go_at_call 111; (with_reducible refine (disk_named.calls a0_2 false _ A60.out).mono ?_); rintro e w' ⟨rfl, ⟨nd, rfl⟩⟩; (try first | exact ⟨rfl, _, World.drewN_drewN _ _ _⟩ | exact ⟨rfl, _, Eq.trans (World.drewN_drewN _ _ _) (congrArg (World.drewN _) (Nat.add_assoc _ _ _))⟩))) | go_quiet (first | (go_at_call 111; (with_reducible refine (disk_named.calls a0_2 false _ A60.out).mono ?_); rintro e w' ⟨rfl, ⟨nd, rfl⟩⟩; (try first | exact ⟨rfl, _, World.drewN_drewN _ _ _⟩ | exact ⟨rfl, _, Eq.trans (World.drewN_drewN _ _ _) (congrArg (World.drewN _) (Nat.add_assoc _ _ _))⟩))))
           go_ret
           exact ⟨fz_, bl_2 HB GE230 GE231⟩end Go.Proofs.Ytpigjmjbfpipnaa.PE
