-- Written for this claim by a program of this session. Lean checks it.
import Derived.Test.YtpigjmjbfpipnaaPBx0
import Derived.Test.YtpigjmjbfpipnaaPBx3
import Derived.Test.YtpigjmjbfpipnaaPBx6
namespace Go.Proofs.Ytpigjmjbfpipnaa.PB
open Go.RowKit Go.Proofs.YtpigjmjbfpipnaaW.PrintWords Go.Proofs.YtpigjmjbfpipnaaW.PrintLast Go.Proofs.YtpigjmjbfpipnaaW.PrintMore Go.Proofs.Ytpigjmjbfpipnaa.Sh Go.Proofs.Ytpigjmjbfpipnaa.Op
attribute [local go_sem] max2_int min2_int max_two min_two max_three min_three max_four min_four   -- for this text's walks alone
set_option linter.unusedVariables false
set_option linter.unusedSimpArgs false

/-! ### disk_change_refused: function 107 -/
mutual
def disk_change_refused.j0 : Nat → Int → Bool → Bool → Int → ByteArray → ByteArray → ByteArray → Int → List (S71) → Bool → Int → Option (Int)
 | 0, _, _, _, _, _, _, _, _, _, _, _ => none
 | k + 1, x5, x6, x14, x171000, x171001, x171002, x171003, x171004, x172000, x172001, x172002 => if x14 = true then (some 5) else (if x171000 = 0 then (if x6 = true then (disk_change_refused.j1 k x5 x6 false x171000 x171001 x171002 x171003 x171004 x172000 x172001 x172002) else (disk_change_refused.j1 k x5 x6 (decide ((x172000.length : Int) ≥ 4096)) x171000 x171001 x171002 x171003 x171004 x172000 x172001 x172002)) else (disk_change_refused.j1 k x5 x6 false x171000 x171001 x171002 x171003 x171004 x172000 x172001 x172002))
def disk_change_refused.j1 : Nat → Int → Bool → Bool → Int → ByteArray → ByteArray → ByteArray → Int → List (S71) → Bool → Int → Option (Int)
 | 0, _, _, _, _, _, _, _, _, _, _, _ => none
 | k + 1, x5, x6, x24, x171000, x171001, x171002, x171003, x171004, x172000, x172001, x172002 => if x24 = true then (some 11) else (if x171000 = 0 then (disk_change_refused.j2 k x5 false x171000 x171001 x171002 x171003 x171004 x172000 x172001 x172002) else (disk_change_refused.j2 k x5 (!x6) x171000 x171001 x171002 x171003 x171004 x172000 x172001 x172002))
def disk_change_refused.j2 : Nat → Int → Bool → Int → ByteArray → ByteArray → ByteArray → Int → List (S71) → Bool → Int → Option (Int)
 | 0, _, _, _, _, _, _, _, _, _, _ => none
 | k + 1, x5, x38, x171000, x171001, x171002, x171003, x171004, x172000, x172001, x172002 => if x38 = true then (some 6) else (if x171000 = 2 then (if x171004 < 0 then (disk_change_refused.j3 k x5 true x171000 x171001 x171002 x171003 x171004 x172000 x172001 x172002) else (if 0 ≤ x5 then (if x5 < (x172000.length : Int) then (disk_change_refused.j3 k x5 (decide (x171004 > (((rd_T71 x172000 x5).f1).size : Int))) x171000 x171001 x171002 x171003 x171004 x172000 x172001 x172002) else (none)) else (none))) else (disk_change_refused.j3 k x5 false x171000 x171001 x171002 x171003 x171004 x172000 x172001 x172002))
def disk_change_refused.j3 : Nat → Int → Bool → Int → ByteArray → ByteArray → ByteArray → Int → List (S71) → Bool → Int → Option (Int)
 | 0, _, _, _, _, _, _, _, _, _, _ => none
 | k + 1, x5, x46, x171000, x171001, x171002, x171003, x171004, x172000, x172001, x172002 => if x46 = true then (some 1) else (if x171000 = 3 then (if 0 ≤ x5 then (if x5 < (x172000.length : Int) then (disk_change_refused.j4 k (decide (((rd_T71 x172000 x5).f2) < (((rd_T71 x172000 x5).f1).size : Int))) x171000 x171001 x171002 x171003 x171004) else (none)) else (none)) else (disk_change_refused.j4 k false x171000 x171001 x171002 x171003 x171004))
def disk_change_refused.j4 : Nat → Bool → Int → ByteArray → ByteArray → ByteArray → Int → Option (Int)
 | 0, _, _, _, _, _, _ => none
 | k + 1, x67, x171000, x171001, x171002, x171003, x171004 => if x67 = true then (some 9) else (if x171000 = 3 then ((disk_named.f x171002).bind fun t178 => (if t178 = true then (some 0) else (some 5))) else (some 0))
end
def disk_change_refused.f (k : Nat) (a0_0 : Int) (a0_1 : ByteArray) (a0_2 : ByteArray) (a0_3 : ByteArray) (a0_4 : Int) (l1_0 : List (S71)) (a1_1 : Bool) (a1_2 : Int) : Option (Int) := (disk_place.f k l1_0 a1_1 a1_2 a0_1).bind fun bt172 => (if a0_0 = 0 then ((disk_named.f a0_1).bind fun t174 => (disk_change_refused.j0 k bt172.1 bt172.2 (!t174) a0_0 a0_1 a0_2 a0_3 a0_4 l1_0 a1_1 a1_2)) else (disk_change_refused.j0 k bt172.1 bt172.2 false a0_0 a0_1 a0_2 a0_3 a0_4 l1_0 a1_1 a1_2))
theorem disk_change_refused.mono_l : ∀ k, (∀ y0 y1 y2 y3 y4 y5 y6 y7 y8 y9 y10, LeO (disk_change_refused.j0 k y0 y1 y2 y3 y4 y5 y6 y7 y8 y9 y10) (disk_change_refused.j0 (k + 1) y0 y1 y2 y3 y4 y5 y6 y7 y8 y9 y10)) ∧ (∀ y0 y1 y2 y3 y4 y5 y6 y7 y8 y9 y10, LeO (disk_change_refused.j1 k y0 y1 y2 y3 y4 y5 y6 y7 y8 y9 y10) (disk_change_refused.j1 (k + 1) y0 y1 y2 y3 y4 y5 y6 y7 y8 y9 y10)) ∧ (∀ y0 y1 y2 y3 y4 y5 y6 y7 y8 y9, LeO (disk_change_refused.j2 k y0 y1 y2 y3 y4 y5 y6 y7 y8 y9) (disk_change_refused.j2 (k + 1) y0 y1 y2 y3 y4 y5 y6 y7 y8 y9)) ∧ (∀ y0 y1 y2 y3 y4 y5 y6 y7 y8 y9, LeO (disk_change_refused.j3 k y0 y1 y2 y3 y4 y5 y6 y7 y8 y9) (disk_change_refused.j3 (k + 1) y0 y1 y2 y3 y4 y5 y6 y7 y8 y9)) ∧ (∀ y0 y1 y2 y3 y4 y5, LeO (disk_change_refused.j4 k y0 y1 y2 y3 y4 y5) (disk_change_refused.j4 (k + 1) y0 y1 y2 y3 y4 y5))
 | 0 => ⟨fun _ _ _ _ _ _ _ _ _ _ _ r h => by simp [disk_change_refused.j0] at h, fun _ _ _ _ _ _ _ _ _ _ _ r h => by simp [disk_change_refused.j1] at h, fun _ _ _ _ _ _ _ _ _ _ r h => by simp [disk_change_refused.j2] at h, fun _ _ _ _ _ _ _ _ _ _ r h => by simp [disk_change_refused.j3] at h, fun _ _ _ _ _ _ r h => by simp [disk_change_refused.j4] at h⟩
 | k + 1 => by
  obtain ⟨ih0, ih1, ih2, ih3, ih4⟩ := disk_change_refused.mono_l k
  refine ⟨?_, ?_, ?_, ?_, ?_⟩
  ·intro y0 y1 y2 y3 y4 y5 y6 y7 y8 y9 y10
   unfold disk_change_refused.j0
   repeat' first | (with_reducible first | exact ih0 _ _ _ _ _ _ _ _ _ _ _ | exact ih1 _ _ _ _ _ _ _ _ _ _ _ | exact ih2 _ _ _ _ _ _ _ _ _ _ | exact ih3 _ _ _ _ _ _ _ _ _ _ | exact ih4 _ _ _ _ _ _ | exact disk_place.mono _ _ _ _ _ | exact LeO.refl _ | exact LeO.none _ | refine LeO.ite ?_ ?_ | refine LeO.bind ?_ (fun _ => ?_)) | exact ih0 _ _ _ _ _ _ _ _ _ _ _ | exact ih1 _ _ _ _ _ _ _ _ _ _ _ | exact ih2 _ _ _ _ _ _ _ _ _ _ | exact ih3 _ _ _ _ _ _ _ _ _ _ | exact ih4 _ _ _ _ _ _ | exact disk_place.mono _ _ _ _ _ | exact LeO.none _ | refine LeO.ite ?_ ?_ | refine LeO.bind ?_ (fun _ => ?_)
  ·intro y0 y1 y2 y3 y4 y5 y6 y7 y8 y9 y10
   unfold disk_change_refused.j1
   repeat' first | (with_reducible first | exact ih0 _ _ _ _ _ _ _ _ _ _ _ | exact ih1 _ _ _ _ _ _ _ _ _ _ _ | exact ih2 _ _ _ _ _ _ _ _ _ _ | exact ih3 _ _ _ _ _ _ _ _ _ _ | exact ih4 _ _ _ _ _ _ | exact disk_place.mono _ _ _ _ _ | exact LeO.refl _ | exact LeO.none _ | refine LeO.ite ?_ ?_ | refine LeO.bind ?_ (fun _ => ?_)) | exact ih0 _ _ _ _ _ _ _ _ _ _ _ | exact ih1 _ _ _ _ _ _ _ _ _ _ _ | exact ih2 _ _ _ _ _ _ _ _ _ _ | exact ih3 _ _ _ _ _ _ _ _ _ _ | exact ih4 _ _ _ _ _ _ | exact disk_place.mono _ _ _ _ _ | exact LeO.none _ | refine LeO.ite ?_ ?_ | refine LeO.bind ?_ (fun _ => ?_)
  ·intro y0 y1 y2 y3 y4 y5 y6 y7 y8 y9
   unfold disk_change_refused.j2
   repeat' first | (with_reducible first | exact ih0 _ _ _ _ _ _ _ _ _ _ _ | exact ih1 _ _ _ _ _ _ _ _ _ _ _ | exact ih2 _ _ _ _ _ _ _ _ _ _ | exact ih3 _ _ _ _ _ _ _ _ _ _ | exact ih4 _ _ _ _ _ _ | exact disk_place.mono _ _ _ _ _ | exact LeO.refl _ | exact LeO.none _ | refine LeO.ite ?_ ?_ | refine LeO.bind ?_ (fun _ => ?_)) | exact ih0 _ _ _ _ _ _ _ _ _ _ _ | exact ih1 _ _ _ _ _ _ _ _ _ _ _ | exact ih2 _ _ _ _ _ _ _ _ _ _ | exact ih3 _ _ _ _ _ _ _ _ _ _ | exact ih4 _ _ _ _ _ _ | exact disk_place.mono _ _ _ _ _ | exact LeO.none _ | refine LeO.ite ?_ ?_ | refine LeO.bind ?_ (fun _ => ?_)
  ·intro y0 y1 y2 y3 y4 y5 y6 y7 y8 y9
   unfold disk_change_refused.j3
   repeat' first | (with_reducible first | exact ih0 _ _ _ _ _ _ _ _ _ _ _ | exact ih1 _ _ _ _ _ _ _ _ _ _ _ | exact ih2 _ _ _ _ _ _ _ _ _ _ | exact ih3 _ _ _ _ _ _ _ _ _ _ | exact ih4 _ _ _ _ _ _ | exact disk_place.mono _ _ _ _ _ | exact LeO.refl _ | exact LeO.none _ | refine LeO.ite ?_ ?_ | refine LeO.bind ?_ (fun _ => ?_)) | exact ih0 _ _ _ _ _ _ _ _ _ _ _ | exact ih1 _ _ _ _ _ _ _ _ _ _ _ | exact ih2 _ _ _ _ _ _ _ _ _ _ | exact ih3 _ _ _ _ _ _ _ _ _ _ | exact ih4 _ _ _ _ _ _ | exact disk_place.mono _ _ _ _ _ | exact LeO.none _ | refine LeO.ite ?_ ?_ | refine LeO.bind ?_ (fun _ => ?_)
  ·intro y0 y1 y2 y3 y4 y5
   unfold disk_change_refused.j4
   repeat' first | (with_reducible first | exact ih0 _ _ _ _ _ _ _ _ _ _ _ | exact ih1 _ _ _ _ _ _ _ _ _ _ _ | exact ih2 _ _ _ _ _ _ _ _ _ _ | exact ih3 _ _ _ _ _ _ _ _ _ _ | exact ih4 _ _ _ _ _ _ | exact disk_place.mono _ _ _ _ _ | exact LeO.refl _ | exact LeO.none _ | refine LeO.ite ?_ ?_ | refine LeO.bind ?_ (fun _ => ?_)) | exact ih0 _ _ _ _ _ _ _ _ _ _ _ | exact ih1 _ _ _ _ _ _ _ _ _ _ _ | exact ih2 _ _ _ _ _ _ _ _ _ _ | exact ih3 _ _ _ _ _ _ _ _ _ _ | exact ih4 _ _ _ _ _ _ | exact disk_place.mono _ _ _ _ _ | exact LeO.none _ | refine LeO.ite ?_ ?_ | refine LeO.bind ?_ (fun _ => ?_)
theorem disk_change_refused.mono : ∀ a0 a1 a2 a3 a4 a5 a6 a7 k, LeO (disk_change_refused.f k a0 a1 a2 a3 a4 a5 a6 a7) (disk_change_refused.f (k + 1) a0 a1 a2 a3 a4 a5 a6 a7) := by
 intro a0 a1 a2 a3 a4 a5 a6 a7 k
 obtain ⟨ih0, ih1, ih2, ih3, ih4⟩ := disk_change_refused.mono_l k
 unfold disk_change_refused.f
 repeat' first | (with_reducible first | exact ih0 _ _ _ _ _ _ _ _ _ _ _ | exact ih1 _ _ _ _ _ _ _ _ _ _ _ | exact ih2 _ _ _ _ _ _ _ _ _ _ | exact ih3 _ _ _ _ _ _ _ _ _ _ | exact ih4 _ _ _ _ _ _ | exact disk_place.mono _ _ _ _ _ | exact LeO.refl _ | exact LeO.none _ | refine LeO.ite ?_ ?_ | refine LeO.bind ?_ (fun _ => ?_)) | exact ih0 _ _ _ _ _ _ _ _ _ _ _ | exact ih1 _ _ _ _ _ _ _ _ _ _ _ | exact ih2 _ _ _ _ _ _ _ _ _ _ | exact ih3 _ _ _ _ _ _ _ _ _ _ | exact ih4 _ _ _ _ _ _ | exact disk_place.mono _ _ _ _ _ | exact LeO.none _ | refine LeO.ite ?_ ?_ | refine LeO.bind ?_ (fun _ => ?_)
set_option maxHeartbeats 80000000 in
set_option maxRecDepth 100000 in
theorem disk_change_refused.calls (k : Nat) (a0_0 : Int) (a0_1 : ByteArray) (a0_2 : ByteArray) (a0_3 : ByteArray) (a0_4 : Int) (A1_0 : Option Addr) (c1_0 : Nat) (l1_0 : List (S71)) (a1_1 : Bool) (a1_2 : Int) (r : Int) (w : World) (hr1_0 : Kd.C k71 w A1_0 l1_0.length l1_0) (hc1_0 : l1_0.length ≤ c1_0) (h : disk_change_refused.f k a0_0 a0_1 a0_2 a0_3 a0_4 l1_0 a1_1 a1_2 = some r) :
  Calls Try.prog 107 #[.agg #[.int .u8 a0_0, .string a0_1, .string a0_2, .string a0_3, .int .i64 a0_4], .agg #[.slice A1_0 l1_0.length c1_0, .bool a1_1, .int .i64 a1_2]] w fun e w' => e = .returned (.int .i64 r) ∧ Below w.heap.size w w' := by
 have hu115 := Try.underlying115
 have hu24 := Try.underlying24
 have HR1_0 := Aside0.mk hr1_0
 have HC1_0 := Aside0.mk hc1_0
 clear hr1_0 hc1_0
 have HB := Aside0.mk (Below.refl w.heap.size w)
 have H : ((disk_place.f k l1_0 a1_1 a1_2 a0_1).bind fun bt172 => (if a0_0 = 0 then ((disk_named.f a0_1).bind fun t174 => (disk_change_refused.j0 k bt172.1 bt172.2 (!t174) a0_0 a0_1 a0_2 a0_3 a0_4 l1_0 a1_1 a1_2)) else (disk_change_refused.j0 k bt172.1 bt172.2 false a0_0 a0_1 a0_2 a0_3 a0_4 l1_0 a1_1 a1_2))) = some r := h
 clear h
 obtain ⟨⟨t172, t173⟩, A30, H⟩ := Option.bind_eq_some_iff.mp H
 try dsimp only at H
 have A3 := Aside0.mk A30
 clear A30
 have HC4 := Aside0.mk H
 clear H
 go_enter Try.func107, Try.ntmps107
 go_upto_region 2 with (first | ((with_reducible refine gate_dst (N := 2) rfl ?_); (try (refine gate_guard (by rfl) ?_; dsimp only)); refine bx_ 2 #[.int .u8 a0_0, .string a0_1, .string a0_2, .string a0_3, .int .i64 a0_4] 115 ?_; intro gb170 hg w5 hbox hb; have BK170 := Aside0.mk (hbox); have GE170 := Aside0.mk (bs_0 hg HB); replace HB := Aside0.mk (below_step (bl_ HB) hb); clear hb hbox hg) | ((with_reducible refine gate_dst (N := 3) rfl ?_); (try (refine gate_guard (by rfl) ?_; dsimp only)); refine bx_ 3 #[.slice A1_0 l1_0.length c1_0, .bool a1_1, .int .i64 a1_2] 24 ?_; intro gb171 hg w6 hbox hb; have BK171 := Aside0.mk (hbox); have GE171 := Aside0.mk (bs_1 hg HB GE170); replace HB := Aside0.mk (below_step (bl_1 HB GE170) hb); have NB170_171 := Aside0.mk (nb_ hg BK170); have NB171_170 := Aside0.mk (nc_ hg BK170); replace BK170 := Aside0.mk (bb_ BK170 hb); clear hb hbox hg; have hnb7 := NB171_170.out; have hnc7 := NB170_171.out; obtain ⟨hcz8_0, hcz8_1, hcz8_2, hfz8_0, hfz8_1, hfz8_2⟩ := c3_ BK171; obtain ⟨hcz9_0, hcz9_1, hcz9_2, hcz9_3, hcz9_4, hfz9_0, hfz9_1, hfz9_2, hfz9_3, hfz9_4⟩ := c5_ BK170) | (go_at_call 50; (with_reducible refine (disk_place.calls k _ _ l1_0 a1_1 a1_2 a0_1 t172 t173 _ ?side1 ?side2 A3.out).mono ?_); (case side1 => exact cl_ (Kd.C_below HR1_0.out HB.out)); (case side2 => exact HC1_0.out); rintro e w10 ⟨rfl, hb⟩; replace BK170 := Aside0.mk (bb_ BK170 hb); replace BK171 := Aside0.mk (bb_ BK171 hb); replace HB := Aside0.mk (below_step (bl_2 HB GE170 GE171) hb); (try clear hb)))
 repeat (go_quiet (first | ((with_reducible refine gate_dst (N := 2) rfl ?_); (try (refine gate_guard (by rfl) ?_; dsimp only)); refine bx_ 2 #[.int .u8 a0_0, .string a0_1, .string a0_2, .string a0_3, .int .i64 a0_4] 115 ?_; intro gb170 hg w5 hbox hb; have BK170 := Aside0.mk (hbox); have GE170 := Aside0.mk (bs_0 hg HB); replace HB := Aside0.mk (below_step (bl_ HB) hb); clear hb hbox hg) | ((with_reducible refine gate_dst (N := 3) rfl ?_); (try (refine gate_guard (by rfl) ?_; dsimp only)); refine bx_ 3 #[.slice A1_0 l1_0.length c1_0, .bool a1_1, .int .i64 a1_2] 24 ?_; intro gb171 hg w6 hbox hb; have BK171 := Aside0.mk (hbox); have GE171 := Aside0.mk (bs_1 hg HB GE170); replace HB := Aside0.mk (below_step (bl_1 HB GE170) hb); have NB170_171 := Aside0.mk (nb_ hg BK170); have NB171_170 := Aside0.mk (nc_ hg BK170); replace BK170 := Aside0.mk (bb_ BK170 hb); clear hb hbox hg; have hnb7 := NB171_170.out; have hnc7 := NB170_171.out; obtain ⟨hcz8_0, hcz8_1, hcz8_2, hfz8_0, hfz8_1, hfz8_2⟩ := c3_ BK171; obtain ⟨hcz9_0, hcz9_1, hcz9_2, hcz9_3, hcz9_4, hfz9_0, hfz9_1, hfz9_2, hfz9_3, hfz9_4⟩ := c5_ BK170) | (go_at_call 50; (with_reducible refine (disk_place.calls k _ _ l1_0 a1_1 a1_2 a0_1 t172 t173 _ ?side1 ?side2 A3.out).mono ?_); (case side1 => exact cl_ (Kd.C_below HR1_0.out HB.out)); (case side2 => exact HC1_0.out); rintro e w10 ⟨rfl, hb⟩; replace BK170 := Aside0.mk (bb_ BK170 hb); replace BK171 := Aside0.mk (bb_ BK171 hb); replace HB := Aside0.mk (below_step (bl_2 HB GE170 GE171) hb); (try clear hb))); go_upto_region 2 with (first | ((with_reducible refine gate_dst (N := 2) rfl ?_); (try (refine gate_guard (by rfl) ?_; dsimp only)); refine bx_ 2 #[.int .u8 a0_0, .string a0_1, .string a0_2, .string a0_3, .int .i64 a0_4] 115 ?_; intro gb170 hg w5 hbox hb; have BK170 := Aside0.mk (hbox); have GE170 := Aside0.mk (bs_0 hg HB); replace HB := Aside0.mk (below_step (bl_ HB) hb); clear hb hbox hg) | ((with_reducible refine gate_dst (N := 3) rfl ?_); (try (refine gate_guard (by rfl) ?_; dsimp only)); refine bx_ 3 #[.slice A1_0 l1_0.length c1_0, .bool a1_1, .int .i64 a1_2] 24 ?_; intro gb171 hg w6 hbox hb; have BK171 := Aside0.mk (hbox); have GE171 := Aside0.mk (bs_1 hg HB GE170); replace HB := Aside0.mk (below_step (bl_1 HB GE170) hb); have NB170_171 := Aside0.mk (nb_ hg BK170); have NB171_170 := Aside0.mk (nc_ hg BK170); replace BK170 := Aside0.mk (bb_ BK170 hb); clear hb hbox hg; have hnb7 := NB171_170.out; have hnc7 := NB170_171.out; obtain ⟨hcz8_0, hcz8_1, hcz8_2, hfz8_0, hfz8_1, hfz8_2⟩ := c3_ BK171; obtain ⟨hcz9_0, hcz9_1, hcz9_2, hcz9_3, hcz9_4, hfz9_0, hfz9_1, hfz9_2, hfz9_3, hfz9_4⟩ := c5_ BK170) | (go_at_call 50; (with_reducible refine (disk_place.calls k _ _ l1_0 a1_1 a1_2 a0_1 t172 t173 _ ?side1 ?side2 A3.out).mono ?_); (case side1 => exact cl_ (Kd.C_below HR1_0.out HB.out)); (case side2 => exact HC1_0.out); rintro e w10 ⟨rfl, hb⟩; replace BK170 := Aside0.mk (bb_ BK170 hb); replace BK171 := Aside0.mk (bb_ BK171 hb); replace HB := Aside0.mk (below_step (bl_2 HB GE170 GE171) hb); (try clear hb))))
 (try simp only [Act.put, List.setIfInBounds_toArray, List.set_cons_zero, List.set_cons_succ])
 go_cut [14] (fun v14 wc => ∃ (kq : Nat) (x14_3 : Bool), v14 = .bool x14_3 ∧ Aside0 (disk_change_refused.j0 kq t172 t173 x14_3 a0_0 a0_1 a0_2 a0_3 a0_4 l1_0 a1_1 a1_2 = some r) ∧ Aside0 (kq ≤ k) ∧ Aside0 (wc.heap[gb170]? = some (.cells #[.int .u8 a0_0, .string a0_1, .string a0_2, .string a0_3, .int .i64 a0_4] 115 (0, 0))) ∧ Aside0 (wc.heap[gb171]? = some (.cells #[(.slice A1_0 l1_0.length c1_0), .bool a1_1, .int .i64 a1_2] 24 (0, 0))) ∧ Aside0 (Below w.heap.size w wc))
 case first =>
  have H := HC4.out
  clear HC4
  by_cases c11 : a0_0 = 0
  rotate_left
  ·rw [if_neg c11] at H
   have c11b0 : (a0_0 == 0) = false := beq_eq_false_iff_ne.mpr c11
   have c11b1 : (a0_0 != 0) = true := bne_iff_ne.mpr c11
   (first | rw [c11b0] | (simp only [i64_w, i32_w]; rw [c11b0]) | skip)
   have H' := Aside0.mk H
   clear H
   have hnb15 := NB170_171.out
   have hnc15 := NB171_170.out
   obtain ⟨hcz16_0, hcz16_1, hcz16_2, hcz16_3, hcz16_4, hfz16_0, hfz16_1, hfz16_2, hfz16_3, hfz16_4⟩ := c5_ BK170
   go_wp2
   repeat (go_quiet (fail); try go_wp2)
   go_meet
   case rel => exact ⟨_, (false), (by first | rfl | (simp; done) | (simp [*]; done)), H', ⟨by first | omega | exact Nat.le_refl _⟩, ⟨bk_ BK170⟩, ⟨bk_ BK171⟩, ⟨bl_2 HB GE170 GE171⟩⟩
  rw [if_pos c11] at H
  have c11b0 : (a0_0 == 0) = true := beq_iff_eq.mpr c11
  have c11b1 : (a0_0 != 0) = false := bne_eq_false_iff_eq.mpr c11
  clear c11
  (first | rw [c11b0] | (simp only [i64_w, i32_w]; rw [c11b0]) | skip)
  obtain ⟨t174, A120, H⟩ := Option.bind_eq_some_iff.mp H
  try dsimp only at H
  have A12 := Aside0.mk A120
  clear A120
  have H' := Aside0.mk H
  clear H
  have hnb13 := NB170_171.out
  have hnc13 := NB171_170.out
  obtain ⟨hcz14_0, hcz14_1, hcz14_2, hcz14_3, hcz14_4, hfz14_0, hfz14_1, hfz14_2, hfz14_3, hfz14_4⟩ := c5_ BK170
  go_wp2_with (first | (go_at_call 111; (with_reducible refine (disk_named.calls a0_1 t174 _ A12.out).mono ?_); rintro e w' ⟨rfl, ⟨nd, rfl⟩⟩; (try first | exact ⟨rfl, _, World.drewN_drewN _ _ _⟩ | exact ⟨rfl, _, Eq.trans (World.drewN_drewN _ _ _) (congrArg (World.drewN _) (Nat.add_assoc _ _ _))⟩)))
  repeat (go_quiet (first | (go_at_call 111; (with_reducible refine (disk_named.calls a0_1 t174 _ A12.out).mono ?_); rintro e w' ⟨rfl, ⟨nd, rfl⟩⟩; (try first | exact ⟨rfl, _, World.drewN_drewN _ _ _⟩ | exact ⟨rfl, _, Eq.trans (World.drewN_drewN _ _ _) (congrArg (World.drewN _) (Nat.add_assoc _ _ _))⟩))); try go_wp2_with (first | (go_at_call 111; (with_reducible refine (disk_named.calls a0_1 t174 _ A12.out).mono ?_); rintro e w' ⟨rfl, ⟨nd, rfl⟩⟩; (try first | exact ⟨rfl, _, World.drewN_drewN _ _ _⟩ | exact ⟨rfl, _, Eq.trans (World.drewN_drewN _ _ _) (congrArg (World.drewN _) (Nat.add_assoc _ _ _))⟩))))
  go_meet
  case rel => exact ⟨_, (!t174), (by first | rfl | (simp; done) | (simp [*]; done)), H', ⟨by first | omega | exact Nat.le_refl _⟩, ⟨bk_ BK170⟩, ⟨bk_ BK171⟩, ⟨bl_2 HB GE170 GE171⟩⟩
 case rest =>
  clear HC4
  try clear c1
  try clear p2
  try clear c7
  try clear c10
  try clear c11
  try clear c11b0
  try clear c11b1
  try clear c13
  try clear c15
  try clear hcz14_0
  try clear hcz14_1
  try clear hcz14_2
  try clear hcz14_3
  try clear hcz14_4
  try clear hcz16_0
  try clear hcz16_1
  try clear hcz16_2
  try clear hcz16_3
  try clear hcz16_4
  try clear hcz8_0
  try clear hcz8_1
  try clear hcz8_2
  try clear hcz9_0
  try clear hcz9_1
  try clear hcz9_2
  try clear hcz9_3
  try clear hcz9_4
  try clear hfz14_0
  try clear hfz14_1
  try clear hfz14_2
  try clear hfz14_3
  try clear hfz14_4
  try clear hfz16_0
  try clear hfz16_1
  try clear hfz16_2
  try clear hfz16_3
  try clear hfz16_4
  try clear hfz8_0
  try clear hfz8_1
  try clear hfz8_2
  try clear hfz9_0
  try clear hfz9_1
  try clear hfz9_2
  try clear hfz9_3
  try clear hfz9_4
  obtain ⟨kq, x14_3, rfl, HA, HJ3, BK170, BK171, HB⟩ := hcut
  cases kq with
  | zero => exact absurd HA.out (by simp [disk_change_refused.j0])
  | succ kj3 =>
   have H := HA.out
   clear HA
   simp only [disk_change_refused.j0] at H
   by_cases c17 : x14_3 = true
   ·subst c17
    have H1 : (some 5) = some r := by rw [if_pos rfl] at H; exact H
    clear H
    have H := H1
    clear H1
    obtain rfl := Option.some.inj H
    go_wp2
    repeat (go_quiet (fail); try go_wp2)
    go_ret
    exact ⟨by first | rfl | (simp; done) | (simp [*]; done), bl_2 HB GE170 GE171⟩
   replace c17 := Bool.eq_false_iff.mpr c17
   subst c17
   have H1 : (if a0_0 = 0 then (if t173 = true then (disk_change_refused.j1 kj3 t172 t173 false a0_0 a0_1 a0_2 a0_3 a0_4 l1_0 a1_1 a1_2) else (disk_change_refused.j1 kj3 t172 t173 (decide ((l1_0.length : Int) ≥ 4096)) a0_0 a0_1 a0_2 a0_3 a0_4 l1_0 a1_1 a1_2)) else (disk_change_refused.j1 kj3 t172 t173 false a0_0 a0_1 a0_2 a0_3 a0_4 l1_0 a1_1 a1_2)) = some r := by rw [if_neg (show ¬ (false = true) by decide)] at H; exact H
   clear H
   have H := H1
   clear H1
   have HC18 := Aside0.mk H
   clear H
   go_upto_region 4 with (fail)
   repeat (go_quiet (fail); go_upto_region 4 with (fail))
   go_cut [24] (fun v24 wc => ∃ (kq : Nat) (x24_17 : Bool), v24 = .bool x24_17 ∧ Aside0 (disk_change_refused.j1 kq t172 t173 x24_17 a0_0 a0_1 a0_2 a0_3 a0_4 l1_0 a1_1 a1_2 = some r) ∧ Aside0 (kq ≤ kj3) ∧ Aside0 (wc.heap[gb170]? = some (.cells #[.int .u8 a0_0, .string a0_1, .string a0_2, .string a0_3, .int .i64 a0_4] 115 (0, 0))) ∧ Aside0 (wc.heap[gb171]? = some (.cells #[(.slice A1_0 l1_0.length c1_0), .bool a1_1, .int .i64 a1_2] 24 (0, 0))) ∧ Aside0 (Below w.heap.size w wc))
   case first =>
    have H := HC18.out
    clear HC18
    by_cases c19 : a0_0 = 0
    rotate_left
    ·rw [if_neg c19] at H
     have c19b0 : (a0_0 == 0) = false := beq_eq_false_iff_ne.mpr c19
     have c19b1 : (a0_0 != 0) = true := bne_iff_ne.mpr c19
     (first | rw [c19b0] | (simp only [i64_w, i32_w]; rw [c19b0]) | skip)
     have H' := Aside0.mk H
     clear H
     have hnb26 := NB170_171.out
     have hnc26 := NB171_170.out
     obtain ⟨hcz27_0, hcz27_1, hcz27_2, hcz27_3, hcz27_4, hfz27_0, hfz27_1, hfz27_2, hfz27_3, hfz27_4⟩ := c5_ BK170
     go_wp2
     repeat (go_quiet (fail); try go_wp2)
     go_meet
     case rel => exact ⟨_, (false), (by first | rfl | (simp; done) | (simp [*]; done)), H', ⟨by have := HJ3.out; first | omega | exact Nat.le_refl _⟩, ⟨bk_ BK170⟩, ⟨bk_ BK171⟩, ⟨bl_2 HB GE170 GE171⟩⟩
    rw [if_pos c19] at H
    have c19b0 : (a0_0 == 0) = true := beq_iff_eq.mpr c19
    have c19b1 : (a0_0 != 0) = false := bne_eq_false_iff_eq.mpr c19
    clear c19
    (first | rw [c19b0] | (simp only [i64_w, i32_w]; rw [c19b0]) | skip)
    by_cases c20 : t173 = true
    ·subst c20
     have H1 : (disk_change_refused.j1 kj3 t172 true false a0_0 a0_1 a0_2 a0_3 a0_4 l1_0 a1_1 a1_2) = some r := by rw [if_pos rfl] at H; exact H
     clear H
     have H := H1
     clear H1
     have H' := Aside0.mk H
     clear H
     have hnb21 := NB170_171.out
     have hnc21 := NB171_170.out
     obtain ⟨hcz22_0, hcz22_1, hcz22_2, hcz22_3, hcz22_4, hfz22_0, hfz22_1, hfz22_2, hfz22_3, hfz22_4⟩ := c5_ BK170
     go_wp2
     repeat (go_quiet (fail); try go_wp2)
     go_meet
     case rel => exact ⟨_, (false), (by first | rfl | (simp; done) | (simp [*]; done)), H', ⟨by have := HJ3.out; first | omega | exact Nat.le_refl _⟩, ⟨bk_ BK170⟩, ⟨bk_ BK171⟩, ⟨bl_2 HB GE170 GE171⟩⟩
    replace c20 := Bool.eq_false_iff.mpr c20
    subst c20
    have H1 : (disk_change_refused.j1 kj3 t172 false (decide ((l1_0.length : Int) ≥ 4096)) a0_0 a0_1 a0_2 a0_3 a0_4 l1_0 a1_1 a1_2) = some r := by rw [if_neg (show ¬ (false = true) by decide)] at H; exact H
    clear H
    have H := H1
    clear H1
    have H' := Aside0.mk H
    clear H
    have hnb23 := NB170_171.out
    have hnc23 := NB171_170.out
    obtain ⟨hcz24_0, hcz24_1, hcz24_2, hcz24_3, hcz24_4, hfz24_0, hfz24_1, hfz24_2, hfz24_3, hfz24_4⟩ := c5_ BK170
    obtain ⟨hcz25_0, hcz25_1, hcz25_2, hfz25_0, hfz25_1, hfz25_2⟩ := c3_ BK171
    go_wp2
    repeat (go_quiet (fail); try go_wp2)
    go_meet
    case rel => exact ⟨_, (decide ((l1_0.length : Int) ≥ 4096)), (by first | rfl | (simp; done) | (simp [*]; done)), H', ⟨by have := HJ3.out; first | omega | exact Nat.le_refl _⟩, ⟨bk_ BK170⟩, ⟨bk_ BK171⟩, ⟨bl_2 HB GE170 GE171⟩⟩
   case rest =>
    clear HC18
    try clear c1
    try clear c2
    try clear p2
    try clear c7
    try clear c10
    try clear c11
    try clear c11b0
    try clear c11b1
    try clear c13
    try clear c15
    try clear c17
    try clear c19
    try clear c19b0
    try clear c19b1
    try clear c20
    try clear c21
    try clear c23
    try clear c26
    try clear hcz14_0
    try clear hcz14_1
    try clear hcz14_2
    try clear hcz14_3
    try clear hcz14_4
    try clear hcz16_0
    try clear hcz16_1
    try clear hcz16_2
    try clear hcz16_3
    try clear hcz16_4
    try clear hcz22_0
    try clear hcz22_1
    try clear hcz22_2
    try clear hcz22_3
    try clear hcz22_4
    try clear hcz24_0
    try clear hcz24_1
    try clear hcz24_2
    try clear hcz24_3
    try clear hcz24_4
    try clear hcz25_0
    try clear hcz25_1
    try clear hcz25_2
    try clear hcz27_0
    try clear hcz27_1
    try clear hcz27_2
    try clear hcz27_3
    try clear hcz27_4
    try clear hcz8_0
    try clear hcz8_1
    try clear hcz8_2
    try clear hcz9_0
    try clear hcz9_1
    try clear hcz9_2
    try clear hcz9_3
    try clear hcz9_4
    try clear hfz14_0
    try clear hfz14_1
    try clear hfz14_2
    try clear hfz14_3
    try clear hfz14_4
    try clear hfz16_0
    try clear hfz16_1
    try clear hfz16_2
    try clear hfz16_3
    try clear hfz16_4
    try clear hfz22_0
    try clear hfz22_1
    try clear hfz22_2
    try clear hfz22_3
    try clear hfz22_4
    try clear hfz24_0
    try clear hfz24_1
    try clear hfz24_2
    try clear hfz24_3
    try clear hfz24_4
    try clear hfz25_0
    try clear hfz25_1
    try clear hfz25_2
    try clear hfz27_0
    try clear hfz27_1
    try clear hfz27_2
    try clear hfz27_3
    try clear hfz27_4
    try clear hfz8_0
    try clear hfz8_1
    try clear hfz8_2
    try clear hfz9_0
    try clear hfz9_1
    try clear hfz9_2
    try clear hfz9_3
    try clear hfz9_4
    try clear p2
    obtain ⟨kq, x24_17, rfl, HA, HJ17, BK170, BK171, HB⟩ := hcut
    cases kq with
    | zero => exact absurd HA.out (by simp [disk_change_refused.j1])
    | succ kj17 =>
     have H := HA.out
     clear HA
     simp only [disk_change_refused.j1] at H
     by_cases c28 : x24_17 = true
     ·subst c28
      have H1 : (some 11) = some r := by rw [if_pos rfl] at H; exact H
      clear H
      have H := H1
      clear H1
      obtain rfl := Option.some.inj H
      go_wp2
      repeat (go_quiet (fail); try go_wp2)
      go_ret
      exact ⟨by first | rfl | (simp; done) | (simp [*]; done), bl_2 HB GE170 GE171⟩
     replace c28 := Bool.eq_false_iff.mpr c28
     subst c28
     have H1 : (if a0_0 = 0 then (disk_change_refused.j2 kj17 t172 false a0_0 a0_1 a0_2 a0_3 a0_4 l1_0 a1_1 a1_2) else (disk_change_refused.j2 kj17 t172 (!t173) a0_0 a0_1 a0_2 a0_3 a0_4 l1_0 a1_1 a1_2)) = some r := by rw [if_neg (show ¬ (false = true) by decide)] at H; exact H
     clear H
     have H := H1
     clear H1
     have HC29 := Aside0.mk H
     clear H
     go_upto_region 6 with (fail)
     repeat (go_quiet (fail); go_upto_region 6 with (fail))
     go_cut [38] (fun v38 wc => ∃ (kq : Nat) (x38_28 : Bool), v38 = .bool x38_28 ∧ Aside0 (disk_change_refused.j2 kq t172 x38_28 a0_0 a0_1 a0_2 a0_3 a0_4 l1_0 a1_1 a1_2 = some r) ∧ Aside0 (kq ≤ kj17) ∧ Aside0 (wc.heap[gb170]? = some (.cells #[.int .u8 a0_0, .string a0_1, .string a0_2, .string a0_3, .int .i64 a0_4] 115 (0, 0))) ∧ Aside0 (wc.heap[gb171]? = some (.cells #[(.slice A1_0 l1_0.length c1_0), .bool a1_1, .int .i64 a1_2] 24 (0, 0))) ∧ Aside0 (Below w.heap.size w wc))
     case first =>
      have H := HC29.out
      clear HC29
      by_cases c30 : a0_0 = 0
      rotate_left
      ·rw [if_neg c30] at H
       have c30b0 : (a0_0 == 0) = false := beq_eq_false_iff_ne.mpr c30
       have c30b1 : (a0_0 != 0) = true := bne_iff_ne.mpr c30
       (first | rw [c30b0] | (simp only [i64_w, i32_w]; rw [c30b0]) | skip)
       have H' := Aside0.mk H
       clear H
       have hnb33 := NB170_171.out
       have hnc33 := NB171_170.out
       obtain ⟨hcz34_0, hcz34_1, hcz34_2, hcz34_3, hcz34_4, hfz34_0, hfz34_1, hfz34_2, hfz34_3, hfz34_4⟩ := c5_ BK170
       go_wp2
       repeat (go_quiet (fail); try go_wp2)
       go_meet
       case rel => exact ⟨_, (!t173), (by first | rfl | (simp; done) | (simp [*]; done)), H', ⟨by have := HJ3.out; have := HJ17.out; first | omega | exact Nat.le_refl _⟩, ⟨bk_ BK170⟩, ⟨bk_ BK171⟩, ⟨bl_2 HB GE170 GE171⟩⟩
      rw [if_pos c30] at H
      have c30b0 : (a0_0 == 0) = true := beq_iff_eq.mpr c30
      have c30b1 : (a0_0 != 0) = false := bne_eq_false_iff_eq.mpr c30
      clear c30
      (first | rw [c30b0] | (simp only [i64_w, i32_w]; rw [c30b0]) | skip)
      have H' := Aside0.mk H
      clear H
      have hnb31 := NB170_171.out
      have hnc31 := NB171_170.out
      obtain ⟨hcz32_0, hcz32_1, hcz32_2, hcz32_3, hcz32_4, hfz32_0, hfz32_1, hfz32_2, hfz32_3, hfz32_4⟩ := c5_ BK170
      go_wp2
      repeat (go_quiet (fail); try go_wp2)
      go_meet
      case rel => exact ⟨_, (false), (by first | rfl | (simp; done) | (simp [*]; done)), H', ⟨by have := HJ3.out; have := HJ17.out; first | omega | exact Nat.le_refl _⟩, ⟨bk_ BK170⟩, ⟨bk_ BK171⟩, ⟨bl_2 HB GE170 GE171⟩⟩
     case rest =>
      clear HC29
      try clear c1
      try clear c2
      try clear p2
      try clear c3
      try clear c7
      try clear c10
      try clear c11
      try clear c11b0
      try clear c11b1
      try clear c13
      try clear c15
      try clear c17
      try clear c19
      try clear c19b0
      try clear c19b1
      try clear c20
      try clear c21
      try clear c23
      try clear c26
      try clear c28
      try clear c30
      try clear c30b0
      try clear c30b1
      try clear c31
      try clear c33
      try clear hcz14_0
      try clear hcz14_1
      try clear hcz14_2
      try clear hcz14_3
      try clear hcz14_4
      try clear hcz16_0
      try clear hcz16_1
      try clear hcz16_2
      try clear hcz16_3
      try clear hcz16_4
      try clear hcz22_0
      try clear hcz22_1
      try clear hcz22_2
      try clear hcz22_3
      try clear hcz22_4
      try clear hcz24_0
      try clear hcz24_1
      try clear hcz24_2
      try clear hcz24_3
      try clear hcz24_4
      try clear hcz25_0
      try clear hcz25_1
      try clear hcz25_2
      try clear hcz27_0
      try clear hcz27_1
      try clear hcz27_2
      try clear hcz27_3
      try clear hcz27_4
      try clear hcz32_0
      try clear hcz32_1
      try clear hcz32_2
      try clear hcz32_3
      try clear hcz32_4
      try clear hcz34_0
      try clear hcz34_1
      try clear hcz34_2
      try clear hcz34_3
      try clear hcz34_4
      try clear hcz8_0
      try clear hcz8_1
      try clear hcz8_2
      try clear hcz9_0
      try clear hcz9_1
      try clear hcz9_2
      try clear hcz9_3
      try clear hcz9_4
      try clear hfz14_0
      try clear hfz14_1
      try clear hfz14_2
      try clear hfz14_3
      try clear hfz14_4
      try clear hfz16_0
      try clear hfz16_1
      try clear hfz16_2
      try clear hfz16_3
      try clear hfz16_4
      try clear hfz22_0
      try clear hfz22_1
      try clear hfz22_2
      try clear hfz22_3
      try clear hfz22_4
      try clear hfz24_0
      try clear hfz24_1
      try clear hfz24_2
      try clear hfz24_3
      try clear hfz24_4
      try clear hfz25_0
      try clear hfz25_1
      try clear hfz25_2
      try clear hfz27_0
      try clear hfz27_1
      try clear hfz27_2
      try clear hfz27_3
      try clear hfz27_4
      try clear hfz32_0
      try clear hfz32_1
      try clear hfz32_2
      try clear hfz32_3
      try clear hfz32_4
      try clear hfz34_0
      try clear hfz34_1
      try clear hfz34_2
      try clear hfz34_3
      try clear hfz34_4
      try clear hfz8_0
      try clear hfz8_1
      try clear hfz8_2
      try clear hfz9_0
      try clear hfz9_1
      try clear hfz9_2
      try clear hfz9_3
      try clear hfz9_4
      try clear p2
      obtain ⟨kq, x38_28, rfl, HA, HJ28, BK170, BK171, HB⟩ := hcut
      cases kq with
      | zero => exact absurd HA.out (by simp [disk_change_refused.j2])
      | succ kj28 =>
       have H := HA.out
       clear HA
       simp only [disk_change_refused.j2] at H
       by_cases c35 : x38_28 = true
       ·subst c35
        have H1 : (some 6) = some r := by rw [if_pos rfl] at H; exact H
        clear H
        have H := H1
        clear H1
        obtain rfl := Option.some.inj H
        go_wp2
        repeat (go_quiet (fail); try go_wp2)
        go_ret
        exact ⟨by first | rfl | (simp; done) | (simp [*]; done), bl_2 HB GE170 GE171⟩
       replace c35 := Bool.eq_false_iff.mpr c35
       subst c35
       have H1 : (if a0_0 = 2 then (if a0_4 < 0 then (disk_change_refused.j3 kj28 t172 true a0_0 a0_1 a0_2 a0_3 a0_4 l1_0 a1_1 a1_2) else (if 0 ≤ t172 then (if t172 < (l1_0.length : Int) then (disk_change_refused.j3 kj28 t172 (decide (a0_4 > (((rd_T71 l1_0 t172).f1).size : Int))) a0_0 a0_1 a0_2 a0_3 a0_4 l1_0 a1_1 a1_2) else (none)) else (none))) else (disk_change_refused.j3 kj28 t172 false a0_0 a0_1 a0_2 a0_3 a0_4 l1_0 a1_1 a1_2)) = some r := by rw [if_neg (show ¬ (false = true) by decide)] at H; exact H
       clear H
       have H := H1
       clear H1
       have HC36 := Aside0.mk H
       clear H
       go_upto_region 8 with (fail)
       repeat (go_quiet (fail); go_upto_region 8 with (fail))
       go_cut [46] (fun v46 wc => ∃ (kq : Nat) (x46_35 : Bool), v46 = .bool x46_35 ∧ Aside0 (disk_change_refused.j3 kq t172 x46_35 a0_0 a0_1 a0_2 a0_3 a0_4 l1_0 a1_1 a1_2 = some r) ∧ Aside0 (kq ≤ kj28) ∧ Aside0 (wc.heap[gb170]? = some (.cells #[.int .u8 a0_0, .string a0_1, .string a0_2, .string a0_3, .int .i64 a0_4] 115 (0, 0))) ∧ Aside0 (wc.heap[gb171]? = some (.cells #[(.slice A1_0 l1_0.length c1_0), .bool a1_1, .int .i64 a1_2] 24 (0, 0))) ∧ Aside0 (Below w.heap.size w wc))
       case first =>
        have H := HC36.out
        clear HC36
        by_cases c37 : a0_0 = 2
        rotate_left
        ·rw [if_neg c37] at H
         have c37b0 : (a0_0 == 2) = false := beq_eq_false_iff_ne.mpr c37
         have c37b1 : (a0_0 != 2) = true := bne_iff_ne.mpr c37
         (first | rw [c37b0] | (simp only [i64_w, i32_w]; rw [c37b0]) | skip)
         have H' := Aside0.mk H
         clear H
         have hnb46 := NB170_171.out
         have hnc46 := NB171_170.out
         obtain ⟨hcz47_0, hcz47_1, hcz47_2, hcz47_3, hcz47_4, hfz47_0, hfz47_1, hfz47_2, hfz47_3, hfz47_4⟩ := c5_ BK170
         go_wp2
         repeat (go_quiet (fail); try go_wp2)
         go_meet
         case rel => exact ⟨_, (false), (by first | rfl | (simp; done) | (simp [*]; done)), H', ⟨by have := HJ3.out; have := HJ17.out; have := HJ28.out; first | omega | exact Nat.le_refl _⟩, ⟨bk_ BK170⟩, ⟨bk_ BK171⟩, ⟨bl_2 HB GE170 GE171⟩⟩
        rw [if_pos c37] at H
        have c37b0 : (a0_0 == 2) = true := beq_iff_eq.mpr c37
        have c37b1 : (a0_0 != 2) = false := bne_eq_false_iff_eq.mpr c37
        clear c37
        (first | rw [c37b0] | (simp only [i64_w, i32_w]; rw [c37b0]) | skip)
        by_cases c38 : a0_4 < 0
        ·rw [if_pos c38] at H
         have c38b0 : decide (a0_4 < 0) = true := decide_eq_true c38
         clear c38
         have H' := Aside0.mk H
         clear H
         have hnb39 := NB170_171.out
         have hnc39 := NB171_170.out
         obtain ⟨hcz40_0, hcz40_1, hcz40_2, hcz40_3, hcz40_4, hfz40_0, hfz40_1, hfz40_2, hfz40_3, hfz40_4⟩ := c5_ BK170
         go_wp2
         repeat (go_quiet (fail); try go_wp2)
         go_meet
         case rel => exact ⟨_, (true), (by first | rfl | (simp; done) | (simp [*]; done)), H', ⟨by have := HJ3.out; have := HJ17.out; have := HJ28.out; first | omega | exact Nat.le_refl _⟩, ⟨bk_ BK170⟩, ⟨bk_ BK171⟩, ⟨bl_2 HB GE170 GE171⟩⟩
        rw [if_neg c38] at H
        have c38b0 : decide (a0_4 < 0) = false := decide_eq_false c38
        clear c38
        by_cases c41 : 0 ≤ t172
        rotate_left
        ·rw [if_neg c41] at H
         exact absurd H (by simp)
        rw [if_pos c41] at H
        have c41b0 : decide (0 ≤ t172) = true := decide_eq_true c41
        clear c41
        by_cases c42 : t172 < (l1_0.length : Int)
        rotate_left
        ·rw [if_neg c42] at H
         exact absurd H (by simp)
        rw [if_pos c42] at H
        have c42b0 : decide (t172 < (l1_0.length : Int)) = true := decide_eq_true c42
        clear c42
        have H' := Aside0.mk H
        clear H
        have hnb43 := NB170_171.out
        have hnc43 := NB171_170.out
        obtain ⟨hcz44_0, hcz44_1, hcz44_2, hcz44_3, hcz44_4, hfz44_0, hfz44_1, hfz44_2, hfz44_3, hfz44_4⟩ := c5_ BK170
        obtain ⟨hcz45_0, hcz45_1, hcz45_2, hfz45_0, hfz45_1, hfz45_2⟩ := c3_ BK171
        have p175 : 0 ≤ (t172 : Int) := of_decide_eq_true (by first | (with_reducible assumption) | assumption)
        have q175 : t172 < (l1_0.length : Int) := of_decide_eq_true (by first | (with_reducible assumption) | assumption)
        obtain ⟨ad175, e175, hx175_0, hx175_1, hx175_2⟩ := at_T71 HR1_0.out t172 p175 q175
        cases e175
        replace hx175_0 := (HB.out.cell (World.block_lt_of_cell? w _ hx175_0)).trans hx175_0
        replace hx175_1 := (HB.out.cell (World.block_lt_of_cell? w _ hx175_1)).trans hx175_1
        replace hx175_2 := (HB.out.cell (World.block_lt_of_cell? w _ hx175_2)).trans hx175_2
        replace p175 := eq_true p175
        replace q175 := eq_true q175
        go_wp2
        repeat (go_quiet (fail); try go_wp2)
        go_meet
        case rel => exact ⟨_, (decide (a0_4 > (((rd_T71 l1_0 t172).f1).size : Int))), (by first | rfl | (simp; done) | (simp [*]; done)), H', ⟨by have := HJ3.out; have := HJ17.out; have := HJ28.out; first | omega | exact Nat.le_refl _⟩, ⟨bk_ BK170⟩, ⟨bk_ BK171⟩, ⟨bl_2 HB GE170 GE171⟩⟩
       case rest =>
        clear HC36
        try clear c1
        try clear p1
        try clear q1
        try clear hx1
        try clear c2
        try clear p2
        try clear c3
        try clear c4
        try clear c7
        try clear c10
        try clear c11
        try clear c11b0
        try clear c11b1
        try clear c13
        try clear c15
        try clear c17
        try clear p17
        try clear q17
        try clear hx17
        try clear c19
        try clear c19b0
        try clear c19b1
        try clear c20
        try clear c21
        try clear c23
        try clear c26
        try clear c28
        try clear c30
        try clear c30b0
        try clear c30b1
        try clear c31
        try clear c33
        try clear c35
        try clear c37
        try clear c37b0
        try clear c37b1
        try clear c38
        try clear c38b0
        try clear c39
        try clear c41
        try clear c41b0
        try clear c42
        try clear c42b0
        try clear c43
        try clear c46
        try clear hcz14_0
        try clear hcz14_1
        try clear hcz14_2
        try clear hcz14_3
        try clear hcz14_4
        try clear hcz16_0
        try clear hcz16_1
        try clear hcz16_2
        try clear hcz16_3
        try clear hcz16_4
        try clear hcz22_0
        try clear hcz22_1
        try clear hcz22_2
        try clear hcz22_3
        try clear hcz22_4
        try clear hcz24_0
        try clear hcz24_1
        try clear hcz24_2
        try clear hcz24_3
        try clear hcz24_4
        try clear hcz25_0
        try clear hcz25_1
        try clear hcz25_2
        try clear hcz27_0
        try clear hcz27_1
        try clear hcz27_2
        try clear hcz27_3
        try clear hcz27_4
        try clear hcz32_0
        try clear hcz32_1
        try clear hcz32_2
        try clear hcz32_3
        try clear hcz32_4
        try clear hcz34_0
        try clear hcz34_1
        try clear hcz34_2
        try clear hcz34_3
        try clear hcz34_4
        try clear hcz40_0
        try clear hcz40_1
        try clear hcz40_2
        try clear hcz40_3
        try clear hcz40_4
        try clear hcz44_0
        try clear hcz44_1
        try clear hcz44_2
        try clear hcz44_3
        try clear hcz44_4
        try clear hcz45_0
        try clear hcz45_1
        try clear hcz45_2
        try clear hcz47_0
        try clear hcz47_1
        try clear hcz47_2
        try clear hcz47_3
        try clear hcz47_4
        try clear hcz8_0
        try clear hcz8_1
        try clear hcz8_2
        try clear hcz9_0
        try clear hcz9_1
        try clear hcz9_2
        try clear hcz9_3
        try clear hcz9_4
        try clear hfz14_0
        try clear hfz14_1
        try clear hfz14_2
        try clear hfz14_3
        try clear hfz14_4
        try clear hfz16_0
        try clear hfz16_1
        try clear hfz16_2
        try clear hfz16_3
        try clear hfz16_4
        try clear hfz22_0
        try clear hfz22_1
        try clear hfz22_2
        try clear hfz22_3
        try clear hfz22_4
        try clear hfz24_0
        try clear hfz24_1
        try clear hfz24_2
        try clear hfz24_3
        try clear hfz24_4
        try clear hfz25_0
        try clear hfz25_1
        try clear hfz25_2
        try clear hfz27_0
        try clear hfz27_1
        try clear hfz27_2
        try clear hfz27_3
        try clear hfz27_4
        try clear hfz32_0
        try clear hfz32_1
        try clear hfz32_2
        try clear hfz32_3
        try clear hfz32_4
        try clear hfz34_0
        try clear hfz34_1
        try clear hfz34_2
        try clear hfz34_3
        try clear hfz34_4
        try clear hfz40_0
        try clear hfz40_1
        try clear hfz40_2
        try clear hfz40_3
        try clear hfz40_4
        try clear hfz44_0
        try clear hfz44_1
        try clear hfz44_2
        try clear hfz44_3
        try clear hfz44_4
        try clear hfz45_0
        try clear hfz45_1
        try clear hfz45_2
        try clear hfz47_0
        try clear hfz47_1
        try clear hfz47_2
        try clear hfz47_3
        try clear hfz47_4
        try clear hfz8_0
        try clear hfz8_1
        try clear hfz8_2
        try clear hfz9_0
        try clear hfz9_1
        try clear hfz9_2
        try clear hfz9_3
        try clear hfz9_4
        try clear hx175_0
        try clear hx175_1
        try clear hx175_2
        try clear p175
        try clear p2
        try clear q175
        obtain ⟨kq, x46_35, rfl, HA, HJ35, BK170, BK171, HB⟩ := hcut
        cases kq with
        | zero => exact absurd HA.out (by simp [disk_change_refused.j3])
        | succ kj35 =>
         have H := HA.out
         clear HA
         simp only [disk_change_refused.j3] at H
         by_cases c48 : x46_35 = true
         ·subst c48
          have H1 : (some 1) = some r := by rw [if_pos rfl] at H; exact H
          clear H
          have H := H1
          clear H1
          obtain rfl := Option.some.inj H
          go_wp2
          repeat (go_quiet (fail); try go_wp2)
          go_ret
          exact ⟨by first | rfl | (simp; done) | (simp [*]; done), bl_2 HB GE170 GE171⟩
         replace c48 := Bool.eq_false_iff.mpr c48
         subst c48
         have H1 : (if a0_0 = 3 then (if 0 ≤ t172 then (if t172 < (l1_0.length : Int) then (disk_change_refused.j4 kj35 (decide (((rd_T71 l1_0 t172).f2) < (((rd_T71 l1_0 t172).f1).size : Int))) a0_0 a0_1 a0_2 a0_3 a0_4) else (none)) else (none)) else (disk_change_refused.j4 kj35 false a0_0 a0_1 a0_2 a0_3 a0_4)) = some r := by rw [if_neg (show ¬ (false = true) by decide)] at H; exact H
         clear H
         have H := H1
         clear H1
         have HC49 := Aside0.mk H
         clear H
         go_upto_region 10 with (fail)
         repeat (go_quiet (fail); go_upto_region 10 with (fail))
         go_cut [67] (fun v67 wc => ∃ (kq : Nat) (x67_48 : Bool), v67 = .bool x67_48 ∧ Aside0 (disk_change_refused.j4 kq x67_48 a0_0 a0_1 a0_2 a0_3 a0_4 = some r) ∧ Aside0 (kq ≤ kj35) ∧ Aside0 (wc.heap[gb170]? = some (.cells #[.int .u8 a0_0, .string a0_1, .string a0_2, .string a0_3, .int .i64 a0_4] 115 (0, 0))) ∧ Aside0 (wc.heap[gb171]? = some (.cells #[(.slice A1_0 l1_0.length c1_0), .bool a1_1, .int .i64 a1_2] 24 (0, 0))) ∧ Aside0 (Below w.heap.size w wc))
         case first =>
          have H := HC49.out
          clear HC49
          by_cases c50 : a0_0 = 3
          rotate_left
          ·rw [if_neg c50] at H
           have c50b0 : (a0_0 == 3) = false := beq_eq_false_iff_ne.mpr c50
           have c50b1 : (a0_0 != 3) = true := bne_iff_ne.mpr c50
           (first | rw [c50b0] | (simp only [i64_w, i32_w]; rw [c50b0]) | skip)
           have H' := Aside0.mk H
           clear H
           have hnb56 := NB170_171.out
           have hnc56 := NB171_170.out
           obtain ⟨hcz57_0, hcz57_1, hcz57_2, hcz57_3, hcz57_4, hfz57_0, hfz57_1, hfz57_2, hfz57_3, hfz57_4⟩ := c5_ BK170
           go_wp2
           repeat (go_quiet (fail); try go_wp2)
           go_meet
           case rel => exact ⟨_, (false), (by first | rfl | (simp; done) | (simp [*]; done)), H', ⟨by have := HJ3.out; have := HJ17.out; have := HJ28.out; have := HJ35.out; first | omega | exact Nat.le_refl _⟩, ⟨bk_ BK170⟩, ⟨bk_ BK171⟩, ⟨bl_2 HB GE170 GE171⟩⟩
          rw [if_pos c50] at H
          have c50b0 : (a0_0 == 3) = true := beq_iff_eq.mpr c50
          have c50b1 : (a0_0 != 3) = false := bne_eq_false_iff_eq.mpr c50
          clear c50
          (first | rw [c50b0] | (simp only [i64_w, i32_w]; rw [c50b0]) | skip)
          by_cases c51 : 0 ≤ t172
          rotate_left
          ·rw [if_neg c51] at H
           exact absurd H (by simp)
          rw [if_pos c51] at H
          have c51b0 : decide (0 ≤ t172) = true := decide_eq_true c51
          clear c51
          by_cases c52 : t172 < (l1_0.length : Int)
          rotate_left
          ·rw [if_neg c52] at H
           exact absurd H (by simp)
          rw [if_pos c52] at H
          have c52b0 : decide (t172 < (l1_0.length : Int)) = true := decide_eq_true c52
          clear c52
          have H' := Aside0.mk H
          clear H
          have hnb53 := NB170_171.out
          have hnc53 := NB171_170.out
          obtain ⟨hcz54_0, hcz54_1, hcz54_2, hcz54_3, hcz54_4, hfz54_0, hfz54_1, hfz54_2, hfz54_3, hfz54_4⟩ := c5_ BK170
          obtain ⟨hcz55_0, hcz55_1, hcz55_2, hfz55_0, hfz55_1, hfz55_2⟩ := c3_ BK171
          have p176 : 0 ≤ (t172 : Int) := of_decide_eq_true (by first | (with_reducible assumption) | assumption)
          have q176 : t172 < (l1_0.length : Int) := of_decide_eq_true (by first | (with_reducible assumption) | assumption)
          obtain ⟨ad176, e176, hx176_0, hx176_1, hx176_2⟩ := at_T71 HR1_0.out t172 p176 q176
          cases e176
          replace hx176_0 := (HB.out.cell (World.block_lt_of_cell? w _ hx176_0)).trans hx176_0
          replace hx176_1 := (HB.out.cell (World.block_lt_of_cell? w _ hx176_1)).trans hx176_1
          replace hx176_2 := (HB.out.cell (World.block_lt_of_cell? w _ hx176_2)).trans hx176_2
          replace p176 := eq_true p176
          replace q176 := eq_true q176
          have p177 : 0 ≤ (t172 : Int) := of_decide_eq_true (by first | (with_reducible assumption) | assumption)
          have q177 : t172 < (l1_0.length : Int) := of_decide_eq_true (by first | (with_reducible assumption) | assumption)
          obtain ⟨ad177, e177, hx177_0, hx177_1, hx177_2⟩ := at_T71 HR1_0.out t172 p177 q177
          obtain rfl : ad176 = ad177 := (by injection e177)
          replace hx177_0 := (HB.out.cell (World.block_lt_of_cell? w _ hx177_0)).trans hx177_0
          replace hx177_1 := (HB.out.cell (World.block_lt_of_cell? w _ hx177_1)).trans hx177_1
          replace hx177_2 := (HB.out.cell (World.block_lt_of_cell? w _ hx177_2)).trans hx177_2
          replace p177 := eq_true p177
          replace q177 := eq_true q177
          go_wp2
          repeat (go_quiet (fail); try go_wp2)
          go_meet
          case rel => exact ⟨_, (decide (((rd_T71 l1_0 t172).f2) < (((rd_T71 l1_0 t172).f1).size : Int))), (by first | rfl | (simp; done) | (simp [*]; done)), H', ⟨by have := HJ3.out; have := HJ17.out; have := HJ28.out; have := HJ35.out; first | omega | exact Nat.le_refl _⟩, ⟨bk_ BK170⟩, ⟨bk_ BK171⟩, ⟨bl_2 HB GE170 GE171⟩⟩
         case rest =>
          clear HC49
          try clear c1
          try clear p1
          try clear q1
          try clear hx1
          try clear c2
          try clear p2
          try clear c3
          try clear c4
          try clear c5
          try clear c7
          try clear c10
          try clear c11
          try clear c11b0
          try clear c11b1
          try clear c13
          try clear c15
          try clear c17
          try clear p17
          try clear q17
          try clear hx17
          try clear c19
          try clear c19b0
          try clear c19b1
          try clear c20
          try clear c21
          try clear c23
          try clear c26
          try clear c28
          try clear c30
          try clear c30b0
          try clear c30b1
          try clear c31
          try clear c33
          try clear c35
          try clear c37
          try clear c37b0
          try clear c37b1
          try clear c38
          try clear c38b0
          try clear c39
          try clear c41
          try clear c41b0
          try clear c42
          try clear c42b0
          try clear c43
          try clear c46
          try clear c48
          try clear c50
          try clear c50b0
          try clear c50b1
          try clear c51
          try clear c51b0
          try clear c52
          try clear c52b0
          try clear c53
          try clear c56
          try clear hcz14_0
          try clear hcz14_1
          try clear hcz14_2
          try clear hcz14_3
          try clear hcz14_4
          try clear hcz16_0
          try clear hcz16_1
          try clear hcz16_2
          try clear hcz16_3
          try clear hcz16_4
          try clear hcz22_0
          try clear hcz22_1
          try clear hcz22_2
          try clear hcz22_3
          try clear hcz22_4
          try clear hcz24_0
          try clear hcz24_1
          try clear hcz24_2
          try clear hcz24_3
          try clear hcz24_4
          try clear hcz25_0
          try clear hcz25_1
          try clear hcz25_2
          try clear hcz27_0
          try clear hcz27_1
          try clear hcz27_2
          try clear hcz27_3
          try clear hcz27_4
          try clear hcz32_0
          try clear hcz32_1
          try clear hcz32_2
          try clear hcz32_3
          try clear hcz32_4
          try clear hcz34_0
          try clear hcz34_1
          try clear hcz34_2
          try clear hcz34_3
          try clear hcz34_4
          try clear hcz40_0
          try clear hcz40_1
          try clear hcz40_2
          try clear hcz40_3
          try clear hcz40_4
          try clear hcz44_0
          try clear hcz44_1
          try clear hcz44_2
          try clear hcz44_3
          try clear hcz44_4
          try clear hcz45_0
          try clear hcz45_1
          try clear hcz45_2
          try clear hcz47_0
          try clear hcz47_1
          try clear hcz47_2
          try clear hcz47_3
          try clear hcz47_4
          try clear hcz54_0
          try clear hcz54_1
          try clear hcz54_2
          try clear hcz54_3
          try clear hcz54_4
          try clear hcz55_0
          try clear hcz55_1
          try clear hcz55_2
          try clear hcz57_0
          try clear hcz57_1
          try clear hcz57_2
          try clear hcz57_3
          try clear hcz57_4
          try clear hcz8_0
          try clear hcz8_1
          try clear hcz8_2
          try clear hcz9_0
          try clear hcz9_1
          try clear hcz9_2
          try clear hcz9_3
          try clear hcz9_4
          try clear hfz14_0
          try clear hfz14_1
          try clear hfz14_2
          try clear hfz14_3
          try clear hfz14_4
          try clear hfz16_0
          try clear hfz16_1
          try clear hfz16_2
          try clear hfz16_3
          try clear hfz16_4
          try clear hfz22_0
          try clear hfz22_1
          try clear hfz22_2
          try clear hfz22_3
          try clear hfz22_4
          try clear hfz24_0
          try clear hfz24_1
          try clear hfz24_2
          try clear hfz24_3
          try clear hfz24_4
          try clear hfz25_0
          try clear hfz25_1
          try clear hfz25_2
          try clear hfz27_0
          try clear hfz27_1
          try clear hfz27_2
          try clear hfz27_3
          try clear hfz27_4
          try clear hfz32_0
          try clear hfz32_1
          try clear hfz32_2
          try clear hfz32_3
          try clear hfz32_4
          try clear hfz34_0
          try clear hfz34_1
          try clear hfz34_2
          try clear hfz34_3
          try clear hfz34_4
          try clear hfz40_0
          try clear hfz40_1
          try clear hfz40_2
          try clear hfz40_3
          try clear hfz40_4
          try clear hfz44_0
          try clear hfz44_1
          try clear hfz44_2
          try clear hfz44_3
          try clear hfz44_4
          try clear hfz45_0
          try clear hfz45_1
          try clear hfz45_2
          try clear hfz47_0
          try clear hfz47_1
          try clear hfz47_2
          try clear hfz47_3
          try clear hfz47_4
          try clear hfz54_0
          try clear hfz54_1
          try clear hfz54_2
          try clear hfz54_3
          try clear hfz54_4
          try clear hfz55_0
          try clear hfz55_1
          try clear hfz55_2
          try clear hfz57_0
          try clear hfz57_1
          try clear hfz57_2
          try clear hfz57_3
          try clear hfz57_4
          try clear hfz8_0
          try clear hfz8_1
          try clear hfz8_2
          try clear hfz9_0
          try clear hfz9_1
          try clear hfz9_2
          try clear hfz9_3
          try clear hfz9_4
          try clear hx175_0
          try clear hx175_1
          try clear hx175_2
          try clear hx176_0
          try clear hx176_1
          try clear hx176_2
          try clear hx177_0
          try clear hx177_1
          try clear hx177_2
          try clear p1
          try clear p17
          try clear p175
          try clear p176
          try clear p177
          try clear p2
          try clear q1
          try clear q17
          try clear q175
          try clear q176
          try clear q177
          obtain ⟨kq, x67_48, rfl, HA, HJ48, BK170, BK171, HB⟩ := hcut
          cases kq with
          | zero => exact absurd HA.out (by simp [disk_change_refused.j4])
          | succ kj48 =>
           have H := HA.out
           clear HA
           simp only [disk_change_refused.j4] at H
           by_cases c58 : x67_48 = true
           ·subst c58
            have H1 : (some 9) = some r := by rw [if_pos rfl] at H; exact H
            clear H
            have H := H1
            clear H1
            obtain rfl := Option.some.inj H
            go_wp2
            repeat (go_quiet (fail); try go_wp2)
            go_ret
            exact ⟨by first | rfl | (simp; done) | (simp [*]; done), bl_2 HB GE170 GE171⟩
           replace c58 := Bool.eq_false_iff.mpr c58
           subst c58
           have H1 : (if a0_0 = 3 then ((disk_named.f a0_2).bind fun t178 => (if t178 = true then (some 0) else (some 5))) else (some 0)) = some r := by rw [if_neg (show ¬ (false = true) by decide)] at H; exact H
           clear H
           have H := H1
           clear H1
           by_cases c59 : a0_0 = 3
           rotate_left
           ·rw [if_neg c59] at H
            have c59b0 : (a0_0 == 3) = false := beq_eq_false_iff_ne.mpr c59
            have c59b1 : (a0_0 != 3) = true := bne_iff_ne.mpr c59
            obtain rfl := Option.some.inj H
            have hnb66 := NB170_171.out
            have hnc66 := NB171_170.out
            obtain ⟨hcz67_0, hcz67_1, hcz67_2, hcz67_3, hcz67_4, hfz67_0, hfz67_1, hfz67_2, hfz67_3, hfz67_4⟩ := c5_ BK170
            go_wp2
            repeat (go_quiet (fail); try go_wp2)
            go_ret
            exact ⟨by first | rfl | (simp; done) | (simp [*]; done), bl_2 HB GE170 GE171⟩


           rw [if_pos c59] at H
           have c59b0 : (a0_0 == 3) = true := beq_iff_eq.mpr c59
           have c59b1 : (a0_0 != 3) = false := bne_eq_false_iff_eq.mpr c59
           clear c59
           obtain ⟨t178, A600, H⟩ := Option.bind_eq_some_iff.mp H
           try dsimp only at H
           have A60 := Aside0.mk A600
           clear A600
           by_cases c61 : t178 = true
           ·subst c61
            have H1 : (some 0) = some r := by rw [if_pos rfl] at H; exact H
            clear H
            have H := H1
            clear H1
            obtain rfl := Option.some.inj H
            have hnb62 := NB170_171.out
            have hnc62 := NB171_170.out
            obtain ⟨hcz63_0, hcz63_1, hcz63_2, hcz63_3, hcz63_4, hfz63_0, hfz63_1, hfz63_2, hfz63_3, hfz63_4⟩ := c5_ BK170
            go_wp2_with (first | (go_at_call 111; (with_reducible refine (disk_named.calls a0_2 true _ A60.out).mono ?_); rintro e w' ⟨rfl, ⟨nd, rfl⟩⟩; (try first | exact ⟨rfl, _, World.drewN_drewN _ _ _⟩ | exact ⟨rfl, _, Eq.trans (World.drewN_drewN _ _ _) (congrArg (World.drewN _) (Nat.add_assoc _ _ _))⟩)))
            repeat (go_quiet (first | (go_at_call 111; (with_reducible refine (disk_named.calls a0_2 true _ A60.out).mono ?_); rintro e w' ⟨rfl, ⟨nd, rfl⟩⟩; (try first | exact ⟨rfl, _, World.drewN_drewN _ _ _⟩ | exact ⟨rfl, _, Eq.trans (World.drewN_drewN _ _ _) (congrArg (World.drewN _) (Nat.add_assoc _ _ _))⟩))); try go_wp2_with (first | (go_at_call 111; (with_reducible refine (disk_named.calls a0_2 true _ A60.out).mono ?_); rintro e w' ⟨rfl, ⟨nd, rfl⟩⟩; (try first | exact ⟨rfl, _, World.drewN_drewN _ _ _⟩ | exact ⟨rfl, _, Eq.trans (World.drewN_drewN _ _ _) (congrArg (World.drewN _) (Nat.add_assoc _ _ _))⟩))))
            go_ret
            exact ⟨by first | rfl | (simp; done) | (simp [*]; done), bl_2 HB GE170 GE171⟩
           replace c61 := Bool.eq_false_iff.mpr c61
           subst c61
           have H1 : (some 5) = some r := by rw [if_neg (show ¬ (false = true) by decide)] at H; exact H
           clear H
           have H := H1
           clear H1
           obtain rfl := Option.some.inj H
           have hnb64 := NB170_171.out
           have hnc64 := NB171_170.out
           obtain ⟨hcz65_0, hcz65_1, hcz65_2, hcz65_3, hcz65_4, hfz65_0, hfz65_1, hfz65_2, hfz65_3, hfz65_4⟩ := c5_ BK170
           go_wp2_with (first | (go_at_call 111; (with_reducible refine (disk_named.calls a0_2 false _ A60.out).mono ?_); rintro e w' ⟨rfl, ⟨nd, rfl⟩⟩; (try first | exact ⟨rfl, _, World.drewN_drewN _ _ _⟩ | exact ⟨rfl, _, Eq.trans (World.drewN_drewN _ _ _) (congrArg (World.drewN _) (Nat.add_assoc _ _ _))⟩)))
           repeat (go_quiet (first | (go_at_call 111; (with_reducible refine (disk_named.calls a0_2 false _ A60.out).mono ?_); rintro e w' ⟨rfl, ⟨nd, rfl⟩⟩; (try first | exact ⟨rfl, _, World.drewN_drewN _ _ _⟩ | exact ⟨rfl, _, Eq.trans (World.drewN_drewN _ _ _) (congrArg (World.drewN _) (Nat.add_assoc _ _ _))⟩))); try go_wp2_with (first | (go_at_call 111; (with_reducible refine (disk_named.calls a0_2 false _ A60.out).mono ?_); rintro e w' ⟨rfl, ⟨nd, rfl⟩⟩; (try first | exact ⟨rfl, _, World.drewN_drewN _ _ _⟩ | exact ⟨rfl, _, Eq.trans (World.drewN_drewN _ _ _) (congrArg (World.drewN _) (Nat.add_assoc _ _ _))⟩))))
           go_ret
           exact ⟨by first | rfl | (simp; done) | (simp [*]; done), bl_2 HB GE170 GE171⟩end Go.Proofs.Ytpigjmjbfpipnaa.PB
