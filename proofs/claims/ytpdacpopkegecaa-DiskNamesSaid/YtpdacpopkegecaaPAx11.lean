-- Written for this claim by a program of this session. Lean checks it.
import Derived.Test.YtpdacpopkegecaaPAx0
import Derived.Test.YtpdacpopkegecaaPAx2
import Derived.Test.YtpdacpopkegecaaPAx7
import Derived.Test.YtpdacpopkegecaaPAx8
import Derived.Test.YtpdacpopkegecaaPAx9
import Derived.Test.YtpdacpopkegecaaPAx10
namespace Go.Proofs.Ytpdacpopkegecaa.PA
open Go.RowKit Go.Proofs.YtpdacpopkegecaaW.PrintWords Go.Proofs.YtpdacpopkegecaaW.PrintLast Go.Proofs.YtpdacpopkegecaaW.PrintMore Go.Proofs.Ytpdacpopkegecaa.Sh Go.Proofs.Ytpdacpopkegecaa.Op
attribute [local go_sem] max2_int min2_int max_two min_two max_three min_three max_four min_four   -- for this text's walks alone
set_option linter.unusedVariables false
set_option linter.unusedSimpArgs false

/-! ### disk_Drop: function 26 -/
def disk_Drop.f (k : Nat) (l0_0 : List (S35)) (a0_1 : Bool) (a0_2 : Int) (a1 : ByteArray) : Option ((List (S35)) × Bool × Int × Int) := (disk_done.f k l0_0 a0_1 a0_2 4 a1 (⟨#[]⟩ : ByteArray) (⟨#[]⟩ : ByteArray) 0).bind fun bt354 => (some (bt354.1, bt354.2.1, bt354.2.2.1, bt354.2.2.2))
theorem disk_Drop.mono : ∀ a0 a1 a2 a3 k, LeO (disk_Drop.f k a0 a1 a2 a3) (disk_Drop.f (k + 1) a0 a1 a2 a3) := by
 intro a0 a1 a2 a3 k
 unfold disk_Drop.f
 repeat' first
   | (with_reducible exact disk_done.mono _ _ _ _ _ _ _ _ _)
   | (with_reducible exact LeO.refl _)
   | (with_reducible exact LeO.none _)
   | (with_reducible refine LeO.ite ?_ ?_)
   | (with_reducible refine LeO.bind ?_ (fun _ => ?_))
   | exact disk_done.mono _ _ _ _ _ _ _ _ _
   | exact LeO.none _
   | refine LeO.ite ?_ ?_
   | refine LeO.bind ?_ (fun _ => ?_)
set_option maxHeartbeats 80000000 in
set_option maxRecDepth 100000 in
theorem disk_Drop.calls (k : Nat) (A0_0 : Option Addr) (c0_0 : Nat) (l0_0 : List (S35)) (a0_1 : Bool) (a0_2 : Int) (a1 : ByteArray) (r1 : List (S35)) (r2 : Bool) (r3 : Int) (r4 : Int) (w : World) (hr0_0 : Kd.C k35 w A0_0 l0_0.length l0_0) (hc0_0 : l0_0.length ≤ c0_0) (h : disk_Drop.f k l0_0 a0_1 a0_2 a1 = some (r1, r2, r3, r4)) :
  Calls Try.prog 26 #[.agg #[.slice A0_0 l0_0.length c0_0, .bool a0_1, .int .i64 a0_2], .string a1] w fun e w' => ∃ v0_ : Value, e = .returned (.tuple #[.agg #[v0_, .bool r2, .int .i64 r3], .int .i64 r4]) ∧ Kd.R k35 35 w' w.heap.size (fun _ => True) v0_ r1 ∧ Below w.heap.size w w' := by
 have hu24 := Try.underlying24
 have hu57 := Try.underlying57
 have HR0_0 := Aside0.mk hr0_0
 have HC0_0 := Aside0.mk hc0_0
 clear hr0_0 hc0_0
 have HB := Aside0.mk (Below.refl w.heap.size w)
 have H : ((disk_done.f k l0_0 a0_1 a0_2 4 a1 (⟨#[]⟩ : ByteArray) (⟨#[]⟩ : ByteArray) 0).bind fun bt354 => (some (bt354.1, bt354.2.1, bt354.2.2.1, bt354.2.2.2))) = some (r1, r2, r3, r4) := h
 clear h
 replace H := Option.bind_eq_some_iff.mp H
 obtain ⟨⟨t354, t357, t358, t359⟩, A30, H⟩ := H
 replace H : (some (t354, t357, t358, t359)) = some (r1, r2, r3, r4) := H
 have A3 := Aside0.mk A30
 clear A30
 simp only [Option.some.injEq, Prod.mk.injEq] at H
 obtain ⟨rfl, rfl, rfl, rfl⟩ := H
 go_enter Try.func26, Try.ntmps26
 go_wp2_with (first | ((with_reducible refine gate_dst (N := 2) rfl ?_); refine box_event ?hg (N := 2) ?hd (cs := #[.slice A0_0 l0_0.length c0_0, .bool a0_1, .int .i64 a0_2]) (t := 24) ?hr ?_; (case hd => rfl); (case hg => rfl); (case hr => first | (go_simp; done) | (go_simp; rfl)); intro gb352 hg w4 hbox hb; have BK352 := Aside0.mk (hbox); have GW352 := Aside0.mk (bs_0 hg HB); have GE352 := Aside0.mk (bs_0 hg HB); replace HB := Aside0.mk (below_step (bl_ HB) hb); clear hb hbox hg) | ((with_reducible refine gate_dst (N := 4) rfl ?_); refine box_event ?hg (N := 4) ?hd (cs := #[.slice none 0 0, .bool false, .int .i64 0]) (t := 24) ?hr ?_; (case hd => rfl); (case hg => rfl); (case hr => first | (go_simp; done) | (go_simp; rfl)); intro gb353 hg w5 hbox hb; have BK353 := Aside0.mk (hbox); have GW353 := Aside0.mk (bs_1 hg HB GE352); have GE353 := Aside0.mk (bs_1 hg HB GE352); replace HB := Aside0.mk (below_step (bl_1 HB GE352) hb); have NB352_353 := Aside0.mk (nb_ hg BK352); have NB353_352 := Aside0.mk (nc_ hg BK352); replace BK352 := Aside0.mk (bb_ BK352 hb); clear hb hbox hg; have hnb6 := NB352_353.out; have hnc6 := NB353_352.out; obtain ⟨hcz7_0, hcz7_1, hcz7_2, hfz7_0, hfz7_1, hfz7_2⟩ := c3_ BK352) | ((with_reducible refine gate_callee (f := 35) rfl ?_); refine goesL_ (some 9) rfl rfl Try.func35 (by kernel_rfl) rfl #[.agg #[.slice A0_0 l0_0.length c0_0, .bool a0_1, .int .i64 a0_2], .agg #[.int .u8 4, .string a1, .string (⟨#[]⟩ : ByteArray), .string (⟨#[]⟩ : ByteArray), .int .i64 0]] rfl (ar_) ?_; (with_reducible refine (disk_done.calls k _ _ l0_0 a0_1 a0_2 4 a1 (⟨#[]⟩ : ByteArray) (⟨#[]⟩ : ByteArray) 0 t354 t357 t358 t359 _ ?side1 ?side2 A3.out).mono ?_); (case side1 => repeat (first | exact (Kd.C_below HR0_0.out HB.out) | (with_reducible refine Kd.C_alloc ?_ _) | (with_reducible refine Kd.C_drewN ?_ _) | (with_reducible refine Kd.C_drew ?_))); (case side2 => exact HC0_0.out); rintro e w8 ⟨v355, rfl, ho0, hb⟩; refine ⟨_, rfl, ?_⟩; have HO356 := Aside0.mk (Kd.R_lower ho0 (below_size (bl_2 HB GE352 GE353))); replace BK352 := Aside0.mk (bb_ BK352 hb); replace BK353 := Aside0.mk (bb_ BK353 hb); replace HB := Aside0.mk (below_step (bl_2 HB GE352 GE353) hb); (try clear hb); (try clear hb2); (try clear hk); (try clear hi); (try clear ho0); obtain ⟨Ao9, co9, eo9⟩ := Kd.R_slice HO356.out; subst eo9; obtain ⟨hcz10_0, hcz10_1, hcz10_2, hfz10_0, hfz10_1, hfz10_2⟩ := c3_ BK353))
 refine bodyPost_ret (results_ct rfl _ _ gb353 24 #[.slice Ao9 t354.length co9, .bool t357, .int .i64 t358] (0, 0) _ rfl (bp_0 BK353) Try.underlying24 rfl (by kernel_rfl)) rfl ?_
 exact ⟨_, by first | rfl | (simp; done) | (simp [*]; done), by (with_reducible repeat (first | apply Kd.R_alloc | apply Kd.R_drewN | apply Kd.R_drew)); exact Kd.R_mono (Kd.R_far (p := ⟨gb353, 2, none⟩) (Kd.R_far (p := ⟨gb353, 1, none⟩) (Kd.R_far (p := ⟨gb353, 0, none⟩) (Kd.R_types HO356.out BK353.out (by decide)) (fun _ hk => hk.2) (.slice Ao9 t354.length co9)) (fun _ hk => hk.2) (.bool t357)) (fun _ hk => hk.2) (.int .i64 t358)) (fun _ hk => trivial), bl_2 HB GE352 GE353⟩

/-! ### gafferref02_Drop: function 27 -/
mutual
def gafferref02_Drop.j0 : Nat → ByteArray → Int → Bool → List (S35) → Bool → Int → Option ((List (S35)) × Bool × Int × Int)
 | 0, _, _, _, _, _, _ => none
 | k + 1, x1, x6, x18, x361000, x361001, x361002 => if x18 = true then (gafferref02_Drop.j1 k x1 6 x361000 x361001 x361002) else (gafferref02_Drop.j1 k x1 x6 x361000 x361001 x361002)
def gafferref02_Drop.j1 : Nat → ByteArray → Int → List (S35) → Bool → Int → Option ((List (S35)) × Bool × Int × Int)
 | 0, _, _, _, _, _ => none
 | k + 1, x1, x6, x361000, x361001, x361002 => if x6 = 0 then ((gafferref02_Copy.f x361000 x361001 x361002).bind fun bt370 => ((gafferref02_burnt.f bt370.1 bt370.2.1 bt370.2.2).bind fun bt375 => (if bt375.2.2.2 = true then ((gafferref02_without.f k bt375.1 bt375.2.1 bt375.2.2.1 x1).bind fun bt382 => (some (bt382.1, bt382.2.1, bt382.2.2, 0))) else (some (bt375.1, bt375.2.1, bt375.2.2.1, 8))))) else ((gafferref02_bad.f x361000 x361001 x361002 x6).bind fun bt364 => (some (bt364.1, bt364.2.1, bt364.2.2.1, bt364.2.2.2)))
end
def gafferref02_Drop.f (k : Nat) (l0_0 : List (S35)) (a0_1 : Bool) (a0_2 : Int) (a1 : ByteArray) : Option ((List (S35)) × Bool × Int × Int) := (gafferref02_ready.f k l0_0 a0_1 a0_2).bind fun t362 => (if t362 = 0 then ((gafferref02_find.f k l0_0 a0_1 a0_2 a1).bind fun t363 => (gafferref02_Drop.j0 k a1 t362 (decide (t363 < 0)) l0_0 a0_1 a0_2)) else (gafferref02_Drop.j0 k a1 t362 false l0_0 a0_1 a0_2))
theorem gafferref02_Drop.mono_l : ∀ k, (∀ y0 y1 y2 y3 y4 y5, LeO (gafferref02_Drop.j0 k y0 y1 y2 y3 y4 y5) (gafferref02_Drop.j0 (k + 1) y0 y1 y2 y3 y4 y5)) ∧ (∀ y0 y1 y2 y3 y4, LeO (gafferref02_Drop.j1 k y0 y1 y2 y3 y4) (gafferref02_Drop.j1 (k + 1) y0 y1 y2 y3 y4))
 | 0 => ⟨fun _ _ _ _ _ _ r h => by simp [gafferref02_Drop.j0] at h, fun _ _ _ _ _ r h => by simp [gafferref02_Drop.j1] at h⟩
 | k + 1 => by
  obtain ⟨ih0, ih1⟩ := gafferref02_Drop.mono_l k
  refine ⟨?_, ?_⟩
  ·intro y0 y1 y2 y3 y4 y5
   unfold gafferref02_Drop.j0
   repeat' first
   | (with_reducible exact ih0 _ _ _ _ _ _)
   | (with_reducible exact ih1 _ _ _ _ _)
   | (with_reducible exact gafferref02_find.mono _ _ _ _ _)
   | (with_reducible exact gafferref02_ready.mono _ _ _ _)
   | (with_reducible exact gafferref02_without.mono _ _ _ _ _)
   | (with_reducible exact LeO.refl _)
   | (with_reducible exact LeO.none _)
   | (with_reducible refine LeO.ite ?_ ?_)
   | (with_reducible refine LeO.bind ?_ (fun _ => ?_))
   | exact ih0 _ _ _ _ _ _
   | exact ih1 _ _ _ _ _
   | exact gafferref02_find.mono _ _ _ _ _
   | exact gafferref02_ready.mono _ _ _ _
   | exact gafferref02_without.mono _ _ _ _ _
   | exact LeO.none _
   | refine LeO.ite ?_ ?_
   | refine LeO.bind ?_ (fun _ => ?_)
  ·intro y0 y1 y2 y3 y4
   unfold gafferref02_Drop.j1
   repeat' first
   | (with_reducible exact ih0 _ _ _ _ _ _)
   | (with_reducible exact ih1 _ _ _ _ _)
   | (with_reducible exact gafferref02_find.mono _ _ _ _ _)
   | (with_reducible exact gafferref02_ready.mono _ _ _ _)
   | (with_reducible exact gafferref02_without.mono _ _ _ _ _)
   | (with_reducible exact LeO.refl _)
   | (with_reducible exact LeO.none _)
   | (with_reducible refine LeO.ite ?_ ?_)
   | (with_reducible refine LeO.bind ?_ (fun _ => ?_))
   | exact ih0 _ _ _ _ _ _
   | exact ih1 _ _ _ _ _
   | exact gafferref02_find.mono _ _ _ _ _
   | exact gafferref02_ready.mono _ _ _ _
   | exact gafferref02_without.mono _ _ _ _ _
   | exact LeO.none _
   | refine LeO.ite ?_ ?_
   | refine LeO.bind ?_ (fun _ => ?_)
theorem gafferref02_Drop.mono : ∀ a0 a1 a2 a3 k, LeO (gafferref02_Drop.f k a0 a1 a2 a3) (gafferref02_Drop.f (k + 1) a0 a1 a2 a3) := by
 intro a0 a1 a2 a3 k
 obtain ⟨ih0, ih1⟩ := gafferref02_Drop.mono_l k
 unfold gafferref02_Drop.f
 repeat' first
   | (with_reducible exact ih0 _ _ _ _ _ _)
   | (with_reducible exact ih1 _ _ _ _ _)
   | (with_reducible exact gafferref02_find.mono _ _ _ _ _)
   | (with_reducible exact gafferref02_ready.mono _ _ _ _)
   | (with_reducible exact gafferref02_without.mono _ _ _ _ _)
   | (with_reducible exact LeO.refl _)
   | (with_reducible exact LeO.none _)
   | (with_reducible refine LeO.ite ?_ ?_)
   | (with_reducible refine LeO.bind ?_ (fun _ => ?_))
   | exact ih0 _ _ _ _ _ _
   | exact ih1 _ _ _ _ _
   | exact gafferref02_find.mono _ _ _ _ _
   | exact gafferref02_ready.mono _ _ _ _
   | exact gafferref02_without.mono _ _ _ _ _
   | exact LeO.none _
   | refine LeO.ite ?_ ?_
   | refine LeO.bind ?_ (fun _ => ?_)
set_option maxHeartbeats 80000000 in
set_option maxRecDepth 100000 in
theorem gafferref02_Drop.calls (k : Nat) (A0_0 : Option Addr) (c0_0 : Nat) (l0_0 : List (S35)) (a0_1 : Bool) (a0_2 : Int) (a1 : ByteArray) (r1 : List (S35)) (r2 : Bool) (r3 : Int) (r4 : Int) (w : World) (hr0_0 : Kd.C k35 w A0_0 l0_0.length l0_0) (hc0_0 : l0_0.length ≤ c0_0) (h : gafferref02_Drop.f k l0_0 a0_1 a0_2 a1 = some (r1, r2, r3, r4)) :
  Calls Try.prog 27 #[.agg #[.slice A0_0 l0_0.length c0_0, .bool a0_1, .int .i64 a0_2], .string a1] w fun e w' => ∃ v0_ : Value, e = .returned (.tuple #[.agg #[v0_, .bool r2, .int .i64 r3], .int .i64 r4]) ∧ Kd.R k35 35 w' w.heap.size (fun _ => True) v0_ r1 ∧ Below w.heap.size w w' := by
 have hu24 := Try.underlying24
 have HR0_0 := Aside0.mk hr0_0
 have HC0_0 := Aside0.mk hc0_0
 clear hr0_0 hc0_0
 have HB := Aside0.mk (Below.refl w.heap.size w)
 have H : ((gafferref02_ready.f k l0_0 a0_1 a0_2).bind fun t362 => (if t362 = 0 then ((gafferref02_find.f k l0_0 a0_1 a0_2 a1).bind fun t363 => (gafferref02_Drop.j0 k a1 t362 (decide (t363 < 0)) l0_0 a0_1 a0_2)) else (gafferref02_Drop.j0 k a1 t362 false l0_0 a0_1 a0_2))) = some (r1, r2, r3, r4) := h
 clear h
 replace H := Option.bind_eq_some_iff.mp H
 obtain ⟨t362, A30, H⟩ := H
 replace H : (if t362 = 0 then ((gafferref02_find.f k l0_0 a0_1 a0_2 a1).bind fun t363 => (gafferref02_Drop.j0 k a1 t362 (decide (t363 < 0)) l0_0 a0_1 a0_2)) else (gafferref02_Drop.j0 k a1 t362 false l0_0 a0_1 a0_2)) = some (r1, r2, r3, r4) := H
 have A3 := Aside0.mk A30
 clear A30
 have HC4 := Aside0.mk H
 clear H
 go_enter Try.func27, Try.ntmps27
 go_upto_region 2 with (first | ((with_reducible refine gate_dst (N := 2) rfl ?_); refine box_event ?hg (N := 2) ?hd (cs := #[.slice A0_0 l0_0.length c0_0, .bool a0_1, .int .i64 a0_2]) (t := 24) ?hr ?_; (case hd => rfl); (case hg => rfl); (case hr => first | (go_simp; done) | (go_simp; rfl)); intro gb360 hg w5 hbox hb; have BK360 := Aside0.mk (hbox); have GW360 := Aside0.mk (bs_0 hg HB); have GE360 := Aside0.mk (bs_0 hg HB); replace HB := Aside0.mk (below_step (bl_ HB) hb); clear hb hbox hg) | ((with_reducible refine gate_dst (N := 4) rfl ?_); refine box_event ?hg (N := 4) ?hd (cs := #[.slice none 0 0, .bool false, .int .i64 0]) (t := 24) ?hr ?_; (case hd => rfl); (case hg => rfl); (case hr => first | (go_simp; done) | (go_simp; rfl)); intro gb361 hg w6 hbox hb; have BK361 := Aside0.mk (hbox); have GW361 := Aside0.mk (bs_1 hg HB GE360); have GE361 := Aside0.mk (bs_1 hg HB GE360); replace HB := Aside0.mk (below_step (bl_1 HB GE360) hb); have NB360_361 := Aside0.mk (nb_ hg BK360); have NB361_360 := Aside0.mk (nc_ hg BK360); replace BK360 := Aside0.mk (bb_ BK360 hb); clear hb hbox hg; have hnb7 := NB360_361.out; have hnc7 := NB361_360.out; obtain ⟨hcz8_0, hcz8_1, hcz8_2, hfz8_0, hfz8_1, hfz8_2⟩ := c3_ BK360) | ((with_reducible refine gate_callee (f := 36) rfl ?_); refine goesL_ (some 10) rfl rfl Try.func36 (by kernel_rfl) rfl #[.agg #[.slice A0_0 l0_0.length c0_0, .bool a0_1, .int .i64 a0_2]] rfl (ar_) ?_; (with_reducible refine (gafferref02_ready.calls k _ _ l0_0 a0_1 a0_2 t362 _ ?side1 ?side2 A3.out).mono ?_); (case side1 => repeat (first | exact (Kd.C_below HR0_0.out HB.out) | (with_reducible refine Kd.C_alloc ?_ _) | (with_reducible refine Kd.C_drewN ?_ _) | (with_reducible refine Kd.C_drew ?_))); (case side2 => exact HC0_0.out); rintro e w9 ⟨rfl, hb⟩; refine ⟨_, rfl, ?_⟩; replace BK360 := Aside0.mk (bb_ BK360 hb); replace BK361 := Aside0.mk (bb_ BK361 hb); replace HB := Aside0.mk (below_step (bl_2 HB GE360 GE361) hb); (try clear hb); (try clear hb2); (try clear hk); (try clear hi)))
 (try simp only [Act.put, List.setIfInBounds_toArray, List.set_cons_zero, List.set_cons_succ])
 go_cut [18] (fun v18 wc => ∃ (kq : Nat) (x18_3 : Bool), v18 = .bool x18_3 ∧ Aside0 (gafferref02_Drop.j0 kq a1 t362 x18_3 l0_0 a0_1 a0_2 = some (r1, r2, r3, r4)) ∧ Aside0 (kq ≤ k) ∧ Aside0 (wc.heap[gb360]? = some (.cells #[(.slice A0_0 l0_0.length c0_0), .bool a0_1, .int .i64 a0_2] 24 (0, 0))) ∧ Aside0 (wc.heap[gb361]? = some (.cells #[(.slice none 0 0), .bool false, .int .i64 0] 24 (0, 0))) ∧ Aside0 (Below w.heap.size w wc))
 case first =>
  have H := HC4.out
  clear HC4
  by_cases c10 : t362 = 0
  ·rw [if_pos c10] at H
   have c10b0 : (t362 == 0) = true := beq_iff_eq.mpr c10
   have c10b1 : (t362 != 0) = false := bne_eq_false_iff_eq.mpr c10
   clear c10
   (first | rw [c10b0] | (simp only [i64_w, i32_w]; rw [c10b0]) | skip)
   replace H := Option.bind_eq_some_iff.mp H
   obtain ⟨t363, A110, H⟩ := H
   replace H : (gafferref02_Drop.j0 k a1 t362 (decide (t363 < 0)) l0_0 a0_1 a0_2) = some (r1, r2, r3, r4) := H
   have A11 := Aside0.mk A110
   clear A110
   have H' := Aside0.mk H
   clear H
   have hnb12 := NB360_361.out
   have hnc12 := NB361_360.out
   obtain ⟨hcz13_0, hcz13_1, hcz13_2, hfz13_0, hfz13_1, hfz13_2⟩ := c3_ BK360
   go_wp2_with (first | (go_at_call 37; (with_reducible refine (gafferref02_find.calls k _ _ l0_0 a0_1 a0_2 a1 t363 _ ?side1 ?side2 A11.out).mono ?_); (case side1 => repeat (first | exact (Kd.C_below HR0_0.out HB.out) | (with_reducible refine Kd.C_alloc ?_ _) | (with_reducible refine Kd.C_drewN ?_ _) | (with_reducible refine Kd.C_drew ?_))); (case side2 => exact HC0_0.out); rintro e w14 ⟨rfl, hb⟩; replace BK360 := Aside0.mk (bb_ BK360 hb); replace BK361 := Aside0.mk (bb_ BK361 hb); replace HB := Aside0.mk (below_step (bl_2 HB GE360 GE361) hb); (try clear hb); (try clear hb2); (try clear hk); (try clear hi)))
   go_meet
   case rel => exact ⟨_, (decide (t363 < 0)), (by first | rfl | (simp; done) | (simp [*]; done)), H', ⟨by first | omega | exact Nat.le_refl _⟩, ⟨bk_ BK360⟩, ⟨bk_ BK361⟩, ⟨bl_2 HB GE360 GE361⟩⟩
  ·rw [if_neg c10] at H
   have c10b0 : (t362 == 0) = false := beq_eq_false_iff_ne.mpr c10
   have c10b1 : (t362 != 0) = true := bne_iff_ne.mpr c10
   (first | rw [c10b0] | (simp only [i64_w, i32_w]; rw [c10b0]) | skip)
   have H' := Aside0.mk H
   clear H
   go_wp2
   go_meet
   case rel => exact ⟨_, (false), (by first | rfl | (simp; done) | (simp [*]; done)), H', ⟨by first | omega | exact Nat.le_refl _⟩, ⟨bk_ BK360⟩, ⟨bk_ BK361⟩, ⟨bl_2 HB GE360 GE361⟩⟩
 case rest =>
  clear HC4
  try clear c1
  try clear c2
  try clear p2
  try clear c3
  try clear c7
  try clear c10
  try clear c10b0
  try clear c10b1
  try clear c12
  try clear hcz13_0
  try clear hcz13_1
  try clear hcz13_2
  try clear hcz8_0
  try clear hcz8_1
  try clear hcz8_2
  try clear hfz13_0
  try clear hfz13_1
  try clear hfz13_2
  try clear hfz8_0
  try clear hfz8_1
  try clear hfz8_2
  obtain ⟨kq, x18_3, rfl, HA, HJ3, BK360, BK361, HB⟩ := hcut
  cases kq with
  | zero => exact absurd HA.out (by simp [gafferref02_Drop.j0])
  | succ kj3 =>
   have H := HA.out
   clear HA
   simp only [gafferref02_Drop.j0] at H
   have HC15 := Aside0.mk H
   clear H
   go_upto_if 18 with (fail)
   go_cut [6] (fun v6 wc => ∃ (kq : Nat) (x6_14 : Int), v6 = .int .i64 x6_14 ∧ Aside0 (gafferref02_Drop.j1 kq a1 x6_14 l0_0 a0_1 a0_2 = some (r1, r2, r3, r4)) ∧ Aside0 (kq ≤ kj3) ∧ Aside0 (wc.heap[gb360]? = some (.cells #[(.slice A0_0 l0_0.length c0_0), .bool a0_1, .int .i64 a0_2] 24 (0, 0))) ∧ Aside0 (wc.heap[gb361]? = some (.cells #[(.slice none 0 0), .bool false, .int .i64 0] 24 (0, 0))) ∧ Aside0 (Below w.heap.size w wc))
   case first =>
    have H := HC15.out
    clear HC15
    by_cases c16 : x18_3 = true
    ·subst c16
     have H1 : (gafferref02_Drop.j1 kj3 a1 6 l0_0 a0_1 a0_2) = some (r1, r2, r3, r4) := by rw [if_pos rfl] at H; exact H
     clear H
     have H := H1
     clear H1
     have H' := Aside0.mk H
     clear H
     go_wp2
     go_meet
     case rel => exact ⟨_, (6), (by first | rfl | (simp; done) | (simp [*]; done)), H', ⟨by have := HJ3.out; first | omega | exact Nat.le_refl _⟩, ⟨bk_ BK360⟩, ⟨bk_ BK361⟩, ⟨bl_2 HB GE360 GE361⟩⟩
    ·replace c16 := Bool.eq_false_iff.mpr c16
     subst c16
     have H1 : (gafferref02_Drop.j1 kj3 a1 t362 l0_0 a0_1 a0_2) = some (r1, r2, r3, r4) := by rw [if_neg (show ¬ (false = true) by decide)] at H; exact H
     clear H
     have H := H1
     clear H1
     have H' := Aside0.mk H
     clear H
     go_wp2
     go_meet
     case rel => exact ⟨_, (t362), (by first | rfl | (simp; done) | (simp [*]; done)), H', ⟨by have := HJ3.out; first | omega | exact Nat.le_refl _⟩, ⟨bk_ BK360⟩, ⟨bk_ BK361⟩, ⟨bl_2 HB GE360 GE361⟩⟩
   case rest =>
    clear HC15
    try clear c1
    try clear c2
    try clear p2
    try clear c3
    try clear c7
    try clear c10
    try clear c10b0
    try clear c10b1
    try clear c12
    try clear c16
    try clear hcz13_0
    try clear hcz13_1
    try clear hcz13_2
    try clear hcz8_0
    try clear hcz8_1
    try clear hcz8_2
    try clear hfz13_0
    try clear hfz13_1
    try clear hfz13_2
    try clear hfz8_0
    try clear hfz8_1
    try clear hfz8_2
    try clear p2
    obtain ⟨kq, x6_14, rfl, HA, HJ14, BK360, BK361, HB⟩ := hcut
    cases kq with
    | zero => exact absurd HA.out (by simp [gafferref02_Drop.j1])
    | succ kj14 =>
     have H := HA.out
     clear HA
     simp only [gafferref02_Drop.j1] at H
     by_cases c17 : x6_14 = 0
     ·rw [if_pos c17] at H
      have c17b0 : (x6_14 == 0) = true := beq_iff_eq.mpr c17
      have c17b1 : (x6_14 != 0) = false := bne_eq_false_iff_eq.mpr c17
      clear c17
      replace H := Option.bind_eq_some_iff.mp H
      obtain ⟨⟨t370, t373, t374⟩, A180, H⟩ := H
      replace H : ((gafferref02_burnt.f t370 t373 t374).bind fun bt375 => (if bt375.2.2.2 = true then ((gafferref02_without.f kj14 bt375.1 bt375.2.1 bt375.2.2.1 a1).bind fun bt382 => (some (bt382.1, bt382.2.1, bt382.2.2, 0))) else (some (bt375.1, bt375.2.1, bt375.2.2.1, 8)))) = some (r1, r2, r3, r4) := H
      have A18 := Aside0.mk A180
      clear A180
      replace H := Option.bind_eq_some_iff.mp H
      obtain ⟨⟨t375, t378, t379, t380⟩, A190, H⟩ := H
      replace H : (if t380 = true then ((gafferref02_without.f kj14 t375 t378 t379 a1).bind fun bt382 => (some (bt382.1, bt382.2.1, bt382.2.2, 0))) else (some (t375, t378, t379, 8))) = some (r1, r2, r3, r4) := H
      have A19 := Aside0.mk A190
      clear A190
      by_cases c20 : t380 = true
      ·subst c20
       have H1 : ((gafferref02_without.f kj14 t375 t378 t379 a1).bind fun bt382 => (some (bt382.1, bt382.2.1, bt382.2.2, 0))) = some (r1, r2, r3, r4) := by rw [if_pos rfl] at H; exact H
       clear H
       have H := H1
       clear H1
       replace H := Option.bind_eq_some_iff.mp H
       obtain ⟨⟨t382, t385, t386⟩, A210, H⟩ := H
       replace H : (some (t382, t385, t386, 0)) = some (r1, r2, r3, r4) := H
       have A21 := Aside0.mk A210
       clear A210
       simp only [Option.some.injEq, Prod.mk.injEq] at H
       obtain ⟨rfl, rfl, rfl, rfl⟩ := H
       have hnb22 := NB360_361.out
       have hnc22 := NB361_360.out
       obtain ⟨hcz23_0, hcz23_1, hcz23_2, hfz23_0, hfz23_1, hfz23_2⟩ := c3_ BK360
       go_wp2_with (first | ((with_reducible refine gate_callee (f := 11) rfl ?_); refine goesL_ (some 28) rfl rfl Try.func11 (by kernel_rfl) rfl #[.agg #[.slice A0_0 l0_0.length c0_0, .bool a0_1, .int .i64 a0_2]] rfl (ar_) ?_; (with_reducible refine (gafferref02_Copy.calls _ _ l0_0 a0_1 a0_2 t370 t373 t374 _ ?side1 ?side2 A18.out).mono ?_); (case side1 => repeat (first | exact (Kd.C_below HR0_0.out HB.out) | (with_reducible refine Kd.C_alloc ?_ _) | (with_reducible refine Kd.C_drewN ?_ _) | (with_reducible refine Kd.C_drew ?_))); (case side2 => exact HC0_0.out); rintro e w24 ⟨v371, rfl, ho0, hb⟩; refine ⟨_, rfl, ?_⟩; have HO372 := Aside0.mk (Kd.R_lower ho0 (below_size (bl_2 HB GE360 GE361))); replace BK360 := Aside0.mk (bb_ BK360 hb); replace BK361 := Aside0.mk (bb_ BK361 hb); replace HB := Aside0.mk (below_step (bl_2 HB GE360 GE361) hb); (try clear hb); (try clear hb2); (try clear hk); (try clear hi); (try clear ho0); obtain ⟨Ao25, co25, eo25⟩ := Kd.R_slice HO372.out; subst eo25) | ((with_reducible refine gate_callee (f := 40) rfl ?_); refine goesL_ (some 29) rfl rfl Try.func40 (by kernel_rfl) rfl #[.agg #[.slice Ao25 t370.length co25, .bool t373, .int .i64 t374]] rfl (ar_) ?_; (with_reducible refine (gafferref02_burnt.calls (fun k_ => some k_ = (.slice Ao25 t370.length co25 : Value).ownBlock) (.slice Ao25 t370.length co25) t370 t373 t374 t375 t378 t379 true w _ ?side1 ?side2 A19.out).mono ?_); (case side1 => repeat (first | (with_reducible first | exact HB.out | apply below_alloc | apply pw_below_drewN | apply below_drew1 | refine below_set ?_ GE360.out | refine below_set ?_ GE361.out) | exact HB.out)); (case side2 => exact Kd.R_tight rfl HO372.out); rintro e w26 ⟨v376, rfl, ho0, hb, hkp⟩; refine ⟨_, rfl, ?_⟩; replace BK360 := Aside0.mk (blk_kept (bk_ BK360) hkp (fun hs_ => (fun e_ => (Kd.R_ne HO372.out BK360.out (by decide)) e_) hs_)); replace BK361 := Aside0.mk (blk_kept (bk_ BK361) hkp (fun hs_ => (fun e_ => (Kd.R_ne HO372.out BK361.out (by decide)) e_) hs_)); have HO377 := Aside0.mk (Kd.R_mono (ok' := fun k_ => True) ho0 (fun k_ hk_ => trivial)); replace HB := Aside0.mk (hb); clear HO372; (try clear hb); (try clear hkp); (try clear ho0)) | ((with_reducible refine gate_dst (N := 7) rfl ?_); refine box_event ?hg (N := 7) ?hd (cs := #[.slice none 0 0, .bool false, .int .i64 0]) (t := 24) ?hr ?_; (case hd => rfl); (case hg => rfl); (case hr => first | (go_simp; done) | (go_simp; rfl)); intro gb381 hg w27 hbox hb; replace HO377 := Aside0.mk (Kd.R_below (by (with_reducible repeat (first | apply Kd.R_alloc | apply Kd.R_drewN | apply Kd.R_drew)); exact HO377.out) hb); have BK381 := Aside0.mk (hbox); have GW381 := Aside0.mk (bs_2 hg HB GE360 GE361); have GE381 := Aside0.mk (bs_2 hg HB GE360 GE361); replace HB := Aside0.mk (below_step (bl_2 HB GE360 GE361) hb); have NB360_381 := Aside0.mk (nb_ hg BK360); have NB381_360 := Aside0.mk (nc_ hg BK360); replace BK360 := Aside0.mk (bb_ BK360 hb); have NB361_381 := Aside0.mk (nb_ hg BK361); have NB381_361 := Aside0.mk (nc_ hg BK361); replace BK361 := Aside0.mk (bb_ BK361 hb); clear hb hbox hg; obtain ⟨Ao28, co28, eo28⟩ := Kd.R_slice HO377.out; subst eo28; have hnb29 := NB381_360.out; have hnc29 := NB360_381.out; have hnb30 := NB381_361.out; have hnc30 := NB361_381.out; obtain ⟨hcz31_0, hcz31_1, hcz31_2, hfz31_0, hfz31_1, hfz31_2⟩ := c3_ BK381) | ((with_reducible refine gate_callee (f := 42) rfl ?_); refine goesL_ (some 37) rfl rfl Try.func42 (by kernel_rfl) rfl #[.agg #[.slice Ao28 t375.length co28, .bool t378, .int .i64 t379], .string a1] rfl (ar_) ?_; (with_reducible refine (gafferref02_without.calls kj14 _ _ t375 t378 t379 a1 t382 t385 t386 _ ?side1 ?side2 A21.out).mono ?_); (case side1 => refine (Kd.R_reads' (e := 35) (base := w.heap.size) (ok := fun k_ => True) (n := t375.length) (c := co28) ?_).2.2; exact (by (with_reducible repeat (first | apply Kd.R_alloc | apply Kd.R_drewN | apply Kd.R_drew)); exact (Kd.R_mono (Kd.R_far (p := ⟨gb381, 2, none⟩) (Kd.R_far (p := ⟨gb381, 1, none⟩) (Kd.R_far (p := ⟨gb381, 0, none⟩) (Kd.R_types HO377.out BK381.out (by decide)) (fun _ hk => hk.2) (.slice Ao28 t375.length co28)) (fun _ hk => hk.2) (.bool t378)) (fun _ hk => hk.2) (.int .i64 t379)) (fun _ h_ => h_.1)))); (case side2 => exact (Kd.R_reads' HO377.out).2.1); rintro e w32 ⟨v383, rfl, ho0, hb⟩; refine ⟨_, rfl, ?_⟩; have HO384 := Aside0.mk (Kd.R_lower (Kd.R_new' ho0 (Kd.R_lt (by (with_reducible repeat (first | apply Kd.R_alloc | apply Kd.R_drewN | apply Kd.R_drew)); exact (Kd.R_mono (Kd.R_far (p := ⟨gb381, 2, none⟩) (Kd.R_far (p := ⟨gb381, 1, none⟩) (Kd.R_far (p := ⟨gb381, 0, none⟩) (Kd.R_types HO377.out BK381.out (by decide)) (fun _ hk => hk.2) (.slice Ao28 t375.length co28)) (fun _ hk => hk.2) (.bool t378)) (fun _ hk => hk.2) (.int .i64 t379)) (fun _ h_ => h_.1))))) (below_size (bl_3 HB GE360 GE361 GE381))); replace HO377 := Aside0.mk (Kd.R_elder' (by (with_reducible repeat (first | apply Kd.R_alloc | apply Kd.R_drewN | apply Kd.R_drew)); exact (Kd.R_mono (Kd.R_far (p := ⟨gb381, 2, none⟩) (Kd.R_far (p := ⟨gb381, 1, none⟩) (Kd.R_far (p := ⟨gb381, 0, none⟩) (Kd.R_types HO377.out BK381.out (by decide)) (fun _ hk => hk.2) (.slice Ao28 t375.length co28)) (fun _ hk => hk.2) (.bool t378)) (fun _ hk => hk.2) (.int .i64 t379)) (fun _ h_ => h_.1))) (Kd.R_base ho0) hb); replace BK360 := Aside0.mk (blk_below (g := gb360) (o := .cells #[.slice A0_0 l0_0.length c0_0, .bool a0_1, .int .i64 a0_2] 24 (0, 0)) (bp_1 BK360 NB360_381) hb); replace BK361 := Aside0.mk (blk_below (g := gb361) (o := .cells #[.slice none 0 0, .bool false, .int .i64 0] 24 (0, 0)) (bp_1 BK361 NB361_381) hb); replace BK381 := Aside0.mk (blk_below (g := gb381) (o := .cells #[.slice Ao28 t375.length co28, .bool t378, .int .i64 t379] 24 (0, 0)) (bp_0 BK381) hb); replace HB := Aside0.mk (below_step (bl_3 HB GE360 GE361 GE381) hb); (try clear hb); (try clear hb2); (try clear hk); (try clear hi); (try clear ho0); obtain ⟨Ao33, co33, eo33⟩ := Kd.R_slice HO384.out; subst eo33; obtain ⟨hcz34_0, hcz34_1, hcz34_2, hfz34_0, hfz34_1, hfz34_2⟩ := c3_ BK361))
       refine bodyPost_ret (results_ct rfl _ _ gb361 24 #[.slice Ao33 t382.length co33, .bool t385, .int .i64 t386] (0, 0) _ rfl (bp_0 BK361) Try.underlying24 rfl (by kernel_rfl)) rfl ?_
       exact ⟨_, by first | rfl | (simp; done) | (simp [*]; done), by (with_reducible repeat (first | apply Kd.R_alloc | apply Kd.R_drewN | apply Kd.R_drew)); exact Kd.R_mono (Kd.R_far (p := ⟨gb361, 2, none⟩) (Kd.R_far (p := ⟨gb361, 1, none⟩) (Kd.R_far (p := ⟨gb361, 0, none⟩) (Kd.R_types HO384.out BK361.out (by decide)) (fun _ hk => hk.2) (.slice Ao33 t382.length co33)) (fun _ hk => hk.2) (.bool t385)) (fun _ hk => hk.2) (.int .i64 t386)) (fun _ hk => trivial), bl_3 HB GE360 GE361 GE381⟩
      ·replace c20 := Bool.eq_false_iff.mpr c20
       subst c20
       have H1 : (some (t375, t378, t379, 8)) = some (r1, r2, r3, r4) := by rw [if_neg (show ¬ (false = true) by decide)] at H; exact H
       clear H
       have H := H1
       clear H1
       simp only [Option.some.injEq, Prod.mk.injEq] at H
       obtain ⟨rfl, rfl, rfl, rfl⟩ := H
       have hnb35 := NB360_361.out
       have hnc35 := NB361_360.out
       obtain ⟨hcz36_0, hcz36_1, hcz36_2, hfz36_0, hfz36_1, hfz36_2⟩ := c3_ BK360
       go_wp2_with (first | ((with_reducible refine gate_callee (f := 11) rfl ?_); refine goesL_ (some 28) rfl rfl Try.func11 (by kernel_rfl) rfl #[.agg #[.slice A0_0 l0_0.length c0_0, .bool a0_1, .int .i64 a0_2]] rfl (ar_) ?_; (with_reducible refine (gafferref02_Copy.calls _ _ l0_0 a0_1 a0_2 t370 t373 t374 _ ?side1 ?side2 A18.out).mono ?_); (case side1 => repeat (first | exact (Kd.C_below HR0_0.out HB.out) | (with_reducible refine Kd.C_alloc ?_ _) | (with_reducible refine Kd.C_drewN ?_ _) | (with_reducible refine Kd.C_drew ?_))); (case side2 => exact HC0_0.out); rintro e w37 ⟨v371, rfl, ho0, hb⟩; refine ⟨_, rfl, ?_⟩; have HO372 := Aside0.mk (Kd.R_lower ho0 (below_size (bl_2 HB GE360 GE361))); replace BK360 := Aside0.mk (bb_ BK360 hb); replace BK361 := Aside0.mk (bb_ BK361 hb); replace HB := Aside0.mk (below_step (bl_2 HB GE360 GE361) hb); (try clear hb); (try clear hb2); (try clear hk); (try clear hi); (try clear ho0); obtain ⟨Ao38, co38, eo38⟩ := Kd.R_slice HO372.out; subst eo38) | ((with_reducible refine gate_callee (f := 40) rfl ?_); refine goesL_ (some 29) rfl rfl Try.func40 (by kernel_rfl) rfl #[.agg #[.slice Ao38 t370.length co38, .bool t373, .int .i64 t374]] rfl (ar_) ?_; (with_reducible refine (gafferref02_burnt.calls (fun k_ => some k_ = (.slice Ao38 t370.length co38 : Value).ownBlock) (.slice Ao38 t370.length co38) t370 t373 t374 t375 t378 t379 false w _ ?side1 ?side2 A19.out).mono ?_); (case side1 => repeat (first | (with_reducible first | exact HB.out | apply below_alloc | apply pw_below_drewN | apply below_drew1 | refine below_set ?_ GE360.out | refine below_set ?_ GE361.out) | exact HB.out)); (case side2 => exact Kd.R_tight rfl HO372.out); rintro e w39 ⟨v376, rfl, ho0, hb, hkp⟩; refine ⟨_, rfl, ?_⟩; replace BK360 := Aside0.mk (blk_kept (bk_ BK360) hkp (fun hs_ => (fun e_ => (Kd.R_ne HO372.out BK360.out (by decide)) e_) hs_)); replace BK361 := Aside0.mk (blk_kept (bk_ BK361) hkp (fun hs_ => (fun e_ => (Kd.R_ne HO372.out BK361.out (by decide)) e_) hs_)); have HO377 := Aside0.mk (Kd.R_mono (ok' := fun k_ => True) ho0 (fun k_ hk_ => trivial)); replace HB := Aside0.mk (hb); clear HO372; (try clear hb); (try clear hkp); (try clear ho0)) | ((with_reducible refine gate_dst (N := 7) rfl ?_); refine box_event ?hg (N := 7) ?hd (cs := #[.slice none 0 0, .bool false, .int .i64 0]) (t := 24) ?hr ?_; (case hd => rfl); (case hg => rfl); (case hr => first | (go_simp; done) | (go_simp; rfl)); intro gb381 hg w40 hbox hb; replace HO377 := Aside0.mk (Kd.R_below (by (with_reducible repeat (first | apply Kd.R_alloc | apply Kd.R_drewN | apply Kd.R_drew)); exact HO377.out) hb); have BK381 := Aside0.mk (hbox); have GW381 := Aside0.mk (bs_2 hg HB GE360 GE361); have GE381 := Aside0.mk (bs_2 hg HB GE360 GE361); replace HB := Aside0.mk (below_step (bl_2 HB GE360 GE361) hb); have NB360_381 := Aside0.mk (nb_ hg BK360); have NB381_360 := Aside0.mk (nc_ hg BK360); replace BK360 := Aside0.mk (bb_ BK360 hb); have NB361_381 := Aside0.mk (nb_ hg BK361); have NB381_361 := Aside0.mk (nc_ hg BK361); replace BK361 := Aside0.mk (bb_ BK361 hb); clear hb hbox hg; obtain ⟨Ao41, co41, eo41⟩ := Kd.R_slice HO377.out; subst eo41; have hnb42 := NB381_360.out; have hnc42 := NB360_381.out; have hnb43 := NB381_361.out; have hnc43 := NB361_381.out; obtain ⟨hcz44_0, hcz44_1, hcz44_2, hfz44_0, hfz44_1, hfz44_2⟩ := c3_ BK381; obtain ⟨hcz45_0, hcz45_1, hcz45_2, hfz45_0, hfz45_1, hfz45_2⟩ := c3_ BK361))
       refine bodyPost_ret (results_ct rfl _ _ gb361 24 #[.slice Ao41 t375.length co41, .bool t378, .int .i64 t379] (0, 0) _ rfl (bp_1 BK361 NB361_381) Try.underlying24 rfl (by kernel_rfl)) rfl ?_
       exact ⟨_, by first | rfl | (simp; done) | (simp [*]; done), by (with_reducible repeat (first | apply Kd.R_alloc | apply Kd.R_drewN | apply Kd.R_drew)); exact Kd.R_mono (Kd.R_far (p := ⟨gb361, 2, none⟩) (Kd.R_far (p := ⟨gb361, 1, none⟩) (Kd.R_far (p := ⟨gb361, 0, none⟩) (Kd.R_far (p := ⟨gb381, 2, none⟩) (Kd.R_far (p := ⟨gb381, 1, none⟩) (Kd.R_far (p := ⟨gb381, 0, none⟩) (Kd.R_types (Kd.R_types HO377.out BK381.out (by decide)) BK361.out (by decide)) (fun _ hk => hk.1.2) (.slice Ao41 t375.length co41)) (fun _ hk => hk.1.2) (.bool t378)) (fun _ hk => hk.1.2) (.int .i64 t379)) (fun _ hk => hk.2) (.slice Ao41 t375.length co41)) (fun _ hk => hk.2) (.bool t378)) (fun _ hk => hk.2) (.int .i64 t379)) (fun _ hk => trivial), bl_3 HB GE360 GE361 GE381⟩
     ·rw [if_neg c17] at H
      have c17b0 : (x6_14 == 0) = false := beq_eq_false_iff_ne.mpr c17
      have c17b1 : (x6_14 != 0) = true := bne_iff_ne.mpr c17
      replace H := Option.bind_eq_some_iff.mp H
      obtain ⟨⟨t364, t367, t368, t369⟩, A460, H⟩ := H
      replace H : (some (t364, t367, t368, t369)) = some (r1, r2, r3, r4) := H
      have A46 := Aside0.mk A460
      clear A460
      simp only [Option.some.injEq, Prod.mk.injEq] at H
      obtain ⟨rfl, rfl, rfl, rfl⟩ := H
      have hnb47 := NB360_361.out
      have hnc47 := NB361_360.out
      obtain ⟨hcz48_0, hcz48_1, hcz48_2, hfz48_0, hfz48_1, hfz48_2⟩ := c3_ BK360
      go_wp2_with (first | ((with_reducible refine gate_callee (f := 39) rfl ?_); refine goesL_ (some 23) rfl rfl Try.func39 (by kernel_rfl) rfl #[.agg #[.slice A0_0 l0_0.length c0_0, .bool a0_1, .int .i64 a0_2], .int .i64 x6_14] rfl (ar_) ?_; (with_reducible refine (gafferref02_bad.calls _ _ l0_0 a0_1 a0_2 x6_14 t364 t367 t368 t369 _ ?side1 ?side2 A46.out).mono ?_); (case side1 => repeat (first | exact (Kd.C_below HR0_0.out HB.out) | (with_reducible refine Kd.C_alloc ?_ _) | (with_reducible refine Kd.C_drewN ?_ _) | (with_reducible refine Kd.C_drew ?_))); (case side2 => exact HC0_0.out); rintro e w49 ⟨v365, rfl, ho0, hb⟩; refine ⟨_, rfl, ?_⟩; have HO366 := Aside0.mk (Kd.R_lower ho0 (below_size (bl_2 HB GE360 GE361))); replace BK360 := Aside0.mk (bb_ BK360 hb); replace BK361 := Aside0.mk (bb_ BK361 hb); replace HB := Aside0.mk (below_step (bl_2 HB GE360 GE361) hb); (try clear hb); (try clear hb2); (try clear hk); (try clear hi); (try clear ho0); obtain ⟨Ao50, co50, eo50⟩ := Kd.R_slice HO366.out; subst eo50; obtain ⟨hcz51_0, hcz51_1, hcz51_2, hfz51_0, hfz51_1, hfz51_2⟩ := c3_ BK361))
      refine bodyPost_ret (results_ct rfl _ _ gb361 24 #[.slice Ao50 t364.length co50, .bool t367, .int .i64 t368] (0, 0) _ rfl (bp_0 BK361) Try.underlying24 rfl (by kernel_rfl)) rfl ?_
      exact ⟨_, by first | rfl | (simp; done) | (simp [*]; done), by (with_reducible repeat (first | apply Kd.R_alloc | apply Kd.R_drewN | apply Kd.R_drew)); exact Kd.R_mono (Kd.R_far (p := ⟨gb361, 2, none⟩) (Kd.R_far (p := ⟨gb361, 1, none⟩) (Kd.R_far (p := ⟨gb361, 0, none⟩) (Kd.R_types HO366.out BK361.out (by decide)) (fun _ hk => hk.2) (.slice Ao50 t364.length co50)) (fun _ hk => hk.2) (.bool t367)) (fun _ hk => hk.2) (.int .i64 t368)) (fun _ hk => trivial), bl_2 HB GE360 GE361⟩

/-! ### gafferlaw02_DiskNames: function 8 -/
def gafferlaw02_DiskNames.f (k : Nat) (l0_0 : List (S35)) (a0_1 : Bool) (a0_2 : Int) (a1 : ByteArray) (a2 : ByteArray) : Option (Bool) := (gafferref02_Copy.f l0_0 a0_1 a0_2).bind fun bt388 => ((disk_Swap.f k bt388.1 bt388.2.1 bt388.2.2 a1 a2).bind fun bt394 => ((gafferref02_Swap.f k l0_0 a0_1 a0_2 a1 a2).bind fun bt401 => ((disk_Drop.f k bt388.1 bt388.2.1 bt388.2.2 a1).bind fun bt408 => ((gafferref02_Drop.f k l0_0 a0_1 a0_2 a1).bind fun bt415 => ((gafferlaw02_lives.f k).bind fun t422 => (if t422 = true then ((gafferref02_Same.f k bt394.1 bt394.2.1 bt394.2.2.1 bt401.1 bt401.2.1 bt401.2.2.1).bind fun t423 => (if t423 = true then (if bt394.2.2.2 = bt401.2.2.2 then ((gafferref02_Same.f k bt408.1 bt408.2.1 bt408.2.2.1 bt415.1 bt415.2.1 bt415.2.2.1).bind fun t424 => (if t424 = true then (if bt408.2.2.2 = bt415.2.2.2 then ((gafferref02_Same.f k bt388.1 bt388.2.1 bt388.2.2 l0_0 a0_1 a0_2).bind fun t425 => (some t425)) else (some false)) else (some false))) else (some false)) else (some false))) else (some false)))))))
theorem gafferlaw02_DiskNames.mono : ∀ a0 a1 a2 a3 a4 k, LeO (gafferlaw02_DiskNames.f k a0 a1 a2 a3 a4) (gafferlaw02_DiskNames.f (k + 1) a0 a1 a2 a3 a4) := by
 intro a0 a1 a2 a3 a4 k
 unfold gafferlaw02_DiskNames.f
 repeat' first
   | (with_reducible exact disk_Drop.mono _ _ _ _ _)
   | (with_reducible exact disk_Swap.mono _ _ _ _ _ _)
   | (with_reducible exact gafferlaw02_lives.mono _)
   | (with_reducible exact gafferref02_Drop.mono _ _ _ _ _)
   | (with_reducible exact gafferref02_Same.mono _ _ _ _ _ _ _)
   | (with_reducible exact gafferref02_Swap.mono _ _ _ _ _ _)
   | (with_reducible exact LeO.refl _)
   | (with_reducible exact LeO.none _)
   | (with_reducible refine LeO.ite ?_ ?_)
   | (with_reducible refine LeO.bind ?_ (fun _ => ?_))
   | exact disk_Drop.mono _ _ _ _ _
   | exact disk_Swap.mono _ _ _ _ _ _
   | exact gafferlaw02_lives.mono _
   | exact gafferref02_Drop.mono _ _ _ _ _
   | exact gafferref02_Same.mono _ _ _ _ _ _ _
   | exact gafferref02_Swap.mono _ _ _ _ _ _
   | exact LeO.none _
   | refine LeO.ite ?_ ?_
   | refine LeO.bind ?_ (fun _ => ?_)
set_option maxHeartbeats 80000000 in
set_option maxRecDepth 100000 in
theorem gafferlaw02_DiskNames.calls (k : Nat) (A0_0 : Option Addr) (c0_0 : Nat) (l0_0 : List (S35)) (a0_1 : Bool) (a0_2 : Int) (a1 : ByteArray) (a2 : ByteArray) (r : Bool) (w : World) (hr0_0 : Kd.C k35 w A0_0 l0_0.length l0_0) (hc0_0 : l0_0.length ≤ c0_0) (h : gafferlaw02_DiskNames.f k l0_0 a0_1 a0_2 a1 a2 = some r) (hr : r = true) :
  Calls Try.prog 8 #[.agg #[.slice A0_0 l0_0.length c0_0, .bool a0_1, .int .i64 a0_2], .string a1, .string a2] w fun e w' => e = .returned (.bool r) ∧ Below w.heap.size w w' := by
 have hu24 := Try.underlying24
 have HR0_0 := Aside0.mk hr0_0
 have HC0_0 := Aside0.mk hc0_0
 clear hr0_0 hc0_0
 have HB := Aside0.mk (Below.refl w.heap.size w)
 have H : ((gafferref02_Copy.f l0_0 a0_1 a0_2).bind fun bt388 => ((disk_Swap.f k bt388.1 bt388.2.1 bt388.2.2 a1 a2).bind fun bt394 => ((gafferref02_Swap.f k l0_0 a0_1 a0_2 a1 a2).bind fun bt401 => ((disk_Drop.f k bt388.1 bt388.2.1 bt388.2.2 a1).bind fun bt408 => ((gafferref02_Drop.f k l0_0 a0_1 a0_2 a1).bind fun bt415 => ((gafferlaw02_lives.f k).bind fun t422 => (if t422 = true then ((gafferref02_Same.f k bt394.1 bt394.2.1 bt394.2.2.1 bt401.1 bt401.2.1 bt401.2.2.1).bind fun t423 => (if t423 = true then (if bt394.2.2.2 = bt401.2.2.2 then ((gafferref02_Same.f k bt408.1 bt408.2.1 bt408.2.2.1 bt415.1 bt415.2.1 bt415.2.2.1).bind fun t424 => (if t424 = true then (if bt408.2.2.2 = bt415.2.2.2 then ((gafferref02_Same.f k bt388.1 bt388.2.1 bt388.2.2 l0_0 a0_1 a0_2).bind fun t425 => (some t425)) else (some false)) else (some false))) else (some false)) else (some false))) else (some false)))))))) = some r := h
 clear h
 replace H := Option.bind_eq_some_iff.mp H
 obtain ⟨⟨t388, t391, t392⟩, A40, H⟩ := H
 replace H : ((disk_Swap.f k t388 t391 t392 a1 a2).bind fun bt394 => ((gafferref02_Swap.f k l0_0 a0_1 a0_2 a1 a2).bind fun bt401 => ((disk_Drop.f k t388 t391 t392 a1).bind fun bt408 => ((gafferref02_Drop.f k l0_0 a0_1 a0_2 a1).bind fun bt415 => ((gafferlaw02_lives.f k).bind fun t422 => (if t422 = true then ((gafferref02_Same.f k bt394.1 bt394.2.1 bt394.2.2.1 bt401.1 bt401.2.1 bt401.2.2.1).bind fun t423 => (if t423 = true then (if bt394.2.2.2 = bt401.2.2.2 then ((gafferref02_Same.f k bt408.1 bt408.2.1 bt408.2.2.1 bt415.1 bt415.2.1 bt415.2.2.1).bind fun t424 => (if t424 = true then (if bt408.2.2.2 = bt415.2.2.2 then ((gafferref02_Same.f k t388 t391 t392 l0_0 a0_1 a0_2).bind fun t425 => (some t425)) else (some false)) else (some false))) else (some false)) else (some false))) else (some false))))))) = some r := H
 have A4 := Aside0.mk A40
 clear A40
 replace H := Option.bind_eq_some_iff.mp H
 obtain ⟨⟨t394, t397, t398, t399⟩, A50, H⟩ := H
 replace H : ((gafferref02_Swap.f k l0_0 a0_1 a0_2 a1 a2).bind fun bt401 => ((disk_Drop.f k t388 t391 t392 a1).bind fun bt408 => ((gafferref02_Drop.f k l0_0 a0_1 a0_2 a1).bind fun bt415 => ((gafferlaw02_lives.f k).bind fun t422 => (if t422 = true then ((gafferref02_Same.f k t394 t397 t398 bt401.1 bt401.2.1 bt401.2.2.1).bind fun t423 => (if t423 = true then (if t399 = bt401.2.2.2 then ((gafferref02_Same.f k bt408.1 bt408.2.1 bt408.2.2.1 bt415.1 bt415.2.1 bt415.2.2.1).bind fun t424 => (if t424 = true then (if bt408.2.2.2 = bt415.2.2.2 then ((gafferref02_Same.f k t388 t391 t392 l0_0 a0_1 a0_2).bind fun t425 => (some t425)) else (some false)) else (some false))) else (some false)) else (some false))) else (some false)))))) = some r := H
 have A5 := Aside0.mk A50
 clear A50
 replace H := Option.bind_eq_some_iff.mp H
 obtain ⟨⟨t401, t404, t405, t406⟩, A60, H⟩ := H
 replace H : ((disk_Drop.f k t388 t391 t392 a1).bind fun bt408 => ((gafferref02_Drop.f k l0_0 a0_1 a0_2 a1).bind fun bt415 => ((gafferlaw02_lives.f k).bind fun t422 => (if t422 = true then ((gafferref02_Same.f k t394 t397 t398 t401 t404 t405).bind fun t423 => (if t423 = true then (if t399 = t406 then ((gafferref02_Same.f k bt408.1 bt408.2.1 bt408.2.2.1 bt415.1 bt415.2.1 bt415.2.2.1).bind fun t424 => (if t424 = true then (if bt408.2.2.2 = bt415.2.2.2 then ((gafferref02_Same.f k t388 t391 t392 l0_0 a0_1 a0_2).bind fun t425 => (some t425)) else (some false)) else (some false))) else (some false)) else (some false))) else (some false))))) = some r := H
 have A6 := Aside0.mk A60
 clear A60
 replace H := Option.bind_eq_some_iff.mp H
 obtain ⟨⟨t408, t411, t412, t413⟩, A70, H⟩ := H
 replace H : ((gafferref02_Drop.f k l0_0 a0_1 a0_2 a1).bind fun bt415 => ((gafferlaw02_lives.f k).bind fun t422 => (if t422 = true then ((gafferref02_Same.f k t394 t397 t398 t401 t404 t405).bind fun t423 => (if t423 = true then (if t399 = t406 then ((gafferref02_Same.f k t408 t411 t412 bt415.1 bt415.2.1 bt415.2.2.1).bind fun t424 => (if t424 = true then (if t413 = bt415.2.2.2 then ((gafferref02_Same.f k t388 t391 t392 l0_0 a0_1 a0_2).bind fun t425 => (some t425)) else (some false)) else (some false))) else (some false)) else (some false))) else (some false)))) = some r := H
 have A7 := Aside0.mk A70
 clear A70
 replace H := Option.bind_eq_some_iff.mp H
 obtain ⟨⟨t415, t418, t419, t420⟩, A80, H⟩ := H
 replace H : ((gafferlaw02_lives.f k).bind fun t422 => (if t422 = true then ((gafferref02_Same.f k t394 t397 t398 t401 t404 t405).bind fun t423 => (if t423 = true then (if t399 = t406 then ((gafferref02_Same.f k t408 t411 t412 t415 t418 t419).bind fun t424 => (if t424 = true then (if t413 = t420 then ((gafferref02_Same.f k t388 t391 t392 l0_0 a0_1 a0_2).bind fun t425 => (some t425)) else (some false)) else (some false))) else (some false)) else (some false))) else (some false))) = some r := H
 have A8 := Aside0.mk A80
 clear A80
 replace H := Option.bind_eq_some_iff.mp H
 obtain ⟨t422, A90, H⟩ := H
 replace H : (if t422 = true then ((gafferref02_Same.f k t394 t397 t398 t401 t404 t405).bind fun t423 => (if t423 = true then (if t399 = t406 then ((gafferref02_Same.f k t408 t411 t412 t415 t418 t419).bind fun t424 => (if t424 = true then (if t413 = t420 then ((gafferref02_Same.f k t388 t391 t392 l0_0 a0_1 a0_2).bind fun t425 => (some t425)) else (some false)) else (some false))) else (some false)) else (some false))) else (some false)) = some r := H
 have A9 := Aside0.mk A90
 clear A90
 by_cases c10 : t422 = true
 ·subst c10
  have H1 : ((gafferref02_Same.f k t394 t397 t398 t401 t404 t405).bind fun t423 => (if t423 = true then (if t399 = t406 then ((gafferref02_Same.f k t408 t411 t412 t415 t418 t419).bind fun t424 => (if t424 = true then (if t413 = t420 then ((gafferref02_Same.f k t388 t391 t392 l0_0 a0_1 a0_2).bind fun t425 => (some t425)) else (some false)) else (some false))) else (some false)) else (some false))) = some r := by rw [if_pos rfl] at H; exact H
  clear H
  have H := H1
  clear H1
  replace H := Option.bind_eq_some_iff.mp H
  obtain ⟨t423, A110, H⟩ := H
  replace H : (if t423 = true then (if t399 = t406 then ((gafferref02_Same.f k t408 t411 t412 t415 t418 t419).bind fun t424 => (if t424 = true then (if t413 = t420 then ((gafferref02_Same.f k t388 t391 t392 l0_0 a0_1 a0_2).bind fun t425 => (some t425)) else (some false)) else (some false))) else (some false)) else (some false)) = some r := H
  have A11 := Aside0.mk A110
  clear A110
  by_cases c12 : t423 = true
  ·subst c12
   have H1 : (if t399 = t406 then ((gafferref02_Same.f k t408 t411 t412 t415 t418 t419).bind fun t424 => (if t424 = true then (if t413 = t420 then ((gafferref02_Same.f k t388 t391 t392 l0_0 a0_1 a0_2).bind fun t425 => (some t425)) else (some false)) else (some false))) else (some false)) = some r := by rw [if_pos rfl] at H; exact H
   clear H
   have H := H1
   clear H1
   by_cases c13 : t399 = t406
   ·rw [if_pos c13] at H
    have c13b0 : (t399 == t406) = true := beq_iff_eq.mpr c13
    have c13b1 : (t399 != t406) = false := bne_eq_false_iff_eq.mpr c13
    clear c13
    replace H := Option.bind_eq_some_iff.mp H
    obtain ⟨t424, A140, H⟩ := H
    replace H : (if t424 = true then (if t413 = t420 then ((gafferref02_Same.f k t388 t391 t392 l0_0 a0_1 a0_2).bind fun t425 => (some t425)) else (some false)) else (some false)) = some r := H
    have A14 := Aside0.mk A140
    clear A140
    by_cases c15 : t424 = true
    ·subst c15
     have H1 : (if t413 = t420 then ((gafferref02_Same.f k t388 t391 t392 l0_0 a0_1 a0_2).bind fun t425 => (some t425)) else (some false)) = some r := by rw [if_pos rfl] at H; exact H
     clear H
     have H := H1
     clear H1
     by_cases c16 : t413 = t420
     ·rw [if_pos c16] at H
      have c16b0 : (t413 == t420) = true := beq_iff_eq.mpr c16
      have c16b1 : (t413 != t420) = false := bne_eq_false_iff_eq.mpr c16
      clear c16
      replace H := Option.bind_eq_some_iff.mp H
      obtain ⟨t425, A170, H⟩ := H
      replace H : (some t425) = some r := H
      have A17 := Aside0.mk A170
      clear A170
      obtain rfl := Option.some.inj H
      go_enter Try.func8, Try.ntmps8
      go_wp2_with (first | ((with_reducible refine gate_dst (N := 3) rfl ?_); refine box_event ?hg (N := 3) ?hd (cs := #[.slice A0_0 l0_0.length c0_0, .bool a0_1, .int .i64 a0_2]) (t := 24) ?hr ?_; (case hd => rfl); (case hg => rfl); (case hr => first | (go_simp; done) | (go_simp; rfl)); intro gb387 hg w18 hbox hb; have BK387 := Aside0.mk (hbox); have GW387 := Aside0.mk (bs_0 hg HB); have GE387 := Aside0.mk (bs_0 hg HB); replace HB := Aside0.mk (below_step (bl_ HB) hb); clear hb hbox hg; obtain ⟨hcz19_0, hcz19_1, hcz19_2, hfz19_0, hfz19_1, hfz19_2⟩ := c3_ BK387) | ((with_reducible refine gate_callee (f := 11) rfl ?_); refine goesL_ (some 17) rfl rfl Try.func11 (by kernel_rfl) rfl #[.agg #[.slice A0_0 l0_0.length c0_0, .bool a0_1, .int .i64 a0_2]] rfl (ar_) ?_; (with_reducible refine (gafferref02_Copy.calls _ _ l0_0 a0_1 a0_2 t388 t391 t392 _ ?side1 ?side2 A4.out).mono ?_); (case side1 => repeat (first | exact (Kd.C_below HR0_0.out HB.out) | (with_reducible refine Kd.C_alloc ?_ _) | (with_reducible refine Kd.C_drewN ?_ _) | (with_reducible refine Kd.C_drew ?_))); (case side2 => exact HC0_0.out); rintro e w20 ⟨v389, rfl, ho0, hb⟩; refine ⟨_, rfl, ?_⟩; have HO390 := Aside0.mk (Kd.R_lower ho0 (below_size (bl_1 HB GE387))); replace BK387 := Aside0.mk (bb_ BK387 hb); replace HB := Aside0.mk (below_step (bl_1 HB GE387) hb); (try clear hb); (try clear hb2); (try clear hk); (try clear hi); (try clear ho0)) | ((with_reducible refine gate_dst (N := 7) rfl ?_); refine box_event ?hg (N := 7) ?hd (cs := #[.slice none 0 0, .bool false, .int .i64 0]) (t := 24) ?hr ?_; (case hd => rfl); (case hg => rfl); (case hr => first | (go_simp; done) | (go_simp; rfl)); intro gb393 hg w21 hbox hb; replace HO390 := Aside0.mk (Kd.R_below (by (with_reducible repeat (first | apply Kd.R_alloc | apply Kd.R_drewN | apply Kd.R_drew)); exact HO390.out) hb); have BK393 := Aside0.mk (hbox); have GW393 := Aside0.mk (bs_1 hg HB GE387); have GE393 := Aside0.mk (bs_1 hg HB GE387); replace HB := Aside0.mk (below_step (bl_1 HB GE387) hb); have NB387_393 := Aside0.mk (nb_ hg BK387); have NB393_387 := Aside0.mk (nc_ hg BK387); replace BK387 := Aside0.mk (bb_ BK387 hb); clear hb hbox hg; obtain ⟨Ao22, co22, eo22⟩ := Kd.R_slice HO390.out; subst eo22; have hnb23 := NB393_387.out; have hnc23 := NB387_393.out; obtain ⟨hcz24_0, hcz24_1, hcz24_2, hfz24_0, hfz24_1, hfz24_2⟩ := c3_ BK393) | ((with_reducible refine gate_callee (f := 20) rfl ?_); refine goesL_ (some 22) rfl rfl Try.func20 (by kernel_rfl) rfl #[.agg #[.slice Ao22 t388.length co22, .bool t391, .int .i64 t392], .string a1, .string a2] rfl (ar_) ?_; (with_reducible refine (disk_Swap.calls k _ _ t388 t391 t392 a1 a2 t394 t397 t398 t399 _ ?side1 ?side2 A5.out).mono ?_); (case side1 => refine (Kd.R_reads' (e := 35) (base := w.heap.size) (ok := fun k_ => True) (n := t388.length) (c := co22) ?_).2.2; exact (by (with_reducible repeat (first | apply Kd.R_alloc | apply Kd.R_drewN | apply Kd.R_drew)); exact (Kd.R_mono (Kd.R_far (p := ⟨gb393, 2, none⟩) (Kd.R_far (p := ⟨gb393, 1, none⟩) (Kd.R_far (p := ⟨gb393, 0, none⟩) (Kd.R_types HO390.out BK393.out (by decide)) (fun _ hk => hk.2) (.slice Ao22 t388.length co22)) (fun _ hk => hk.2) (.bool t391)) (fun _ hk => hk.2) (.int .i64 t392)) (fun _ h_ => h_.1)))); (case side2 => exact (Kd.R_reads' HO390.out).2.1); rintro e w25 ⟨v395, rfl, ho0, hb⟩; refine ⟨_, rfl, ?_⟩; have HO396 := Aside0.mk (Kd.R_lower (Kd.R_new' ho0 (Kd.R_lt (by (with_reducible repeat (first | apply Kd.R_alloc | apply Kd.R_drewN | apply Kd.R_drew)); exact (Kd.R_mono (Kd.R_far (p := ⟨gb393, 2, none⟩) (Kd.R_far (p := ⟨gb393, 1, none⟩) (Kd.R_far (p := ⟨gb393, 0, none⟩) (Kd.R_types HO390.out BK393.out (by decide)) (fun _ hk => hk.2) (.slice Ao22 t388.length co22)) (fun _ hk => hk.2) (.bool t391)) (fun _ hk => hk.2) (.int .i64 t392)) (fun _ h_ => h_.1))))) (below_size (bl_2 HB GE387 GE393))); replace HO390 := Aside0.mk (Kd.R_elder' (by (with_reducible repeat (first | apply Kd.R_alloc | apply Kd.R_drewN | apply Kd.R_drew)); exact (Kd.R_mono (Kd.R_far (p := ⟨gb393, 2, none⟩) (Kd.R_far (p := ⟨gb393, 1, none⟩) (Kd.R_far (p := ⟨gb393, 0, none⟩) (Kd.R_types HO390.out BK393.out (by decide)) (fun _ hk => hk.2) (.slice Ao22 t388.length co22)) (fun _ hk => hk.2) (.bool t391)) (fun _ hk => hk.2) (.int .i64 t392)) (fun _ h_ => h_.1))) (Kd.R_base ho0) hb); replace BK387 := Aside0.mk (blk_below (g := gb387) (o := .cells #[.slice A0_0 l0_0.length c0_0, .bool a0_1, .int .i64 a0_2] 24 (0, 0)) (bp_1 BK387 NB387_393) hb); replace BK393 := Aside0.mk (blk_below (g := gb393) (o := .cells #[.slice Ao22 t388.length co22, .bool t391, .int .i64 t392] 24 (0, 0)) (bp_0 BK393) hb); replace HB := Aside0.mk (below_step (bl_2 HB GE387 GE393) hb); (try clear hb); (try clear hb2); (try clear hk); (try clear hi); (try clear ho0)) | ((with_reducible refine gate_dst (N := 8) rfl ?_); refine box_event ?hg (N := 8) ?hd (cs := #[.slice none 0 0, .bool false, .int .i64 0]) (t := 24) ?hr ?_; (case hd => rfl); (case hg => rfl); (case hr => first | (go_simp; done) | (go_simp; rfl)); intro gb400 hg w26 hbox hb; replace HO390 := Aside0.mk (Kd.R_below (by (with_reducible repeat (first | apply Kd.R_alloc | apply Kd.R_drewN | apply Kd.R_drew)); exact HO390.out) hb); replace HO396 := Aside0.mk (Kd.R_below (by (with_reducible repeat (first | apply Kd.R_alloc | apply Kd.R_drewN | apply Kd.R_drew)); exact HO396.out) hb); have BK400 := Aside0.mk (hbox); have GW400 := Aside0.mk (bs_2 hg HB GE387 GE393); have GE400 := Aside0.mk (bs_2 hg HB GE387 GE393); replace HB := Aside0.mk (below_step (bl_2 HB GE387 GE393) hb); have NB387_400 := Aside0.mk (nb_ hg BK387); have NB400_387 := Aside0.mk (nc_ hg BK387); replace BK387 := Aside0.mk (bb_ BK387 hb); have NB393_400 := Aside0.mk (nb_ hg BK393); have NB400_393 := Aside0.mk (nc_ hg BK393); replace BK393 := Aside0.mk (bb_ BK393 hb); clear hb hbox hg; obtain ⟨Ao27, co27, eo27⟩ := Kd.R_slice HO396.out; subst eo27; have hnb28 := NB400_387.out; have hnc28 := NB387_400.out; have hnb29 := NB400_393.out; have hnc29 := NB393_400.out; obtain ⟨hcz30_0, hcz30_1, hcz30_2, hfz30_0, hfz30_1, hfz30_2⟩ := c3_ BK400; obtain ⟨hcz31_0, hcz31_1, hcz31_2, hfz31_0, hfz31_1, hfz31_2⟩ := c3_ BK387) | ((with_reducible refine gate_callee (f := 25) rfl ?_); refine goesL_ (some 29) rfl rfl Try.func25 (by kernel_rfl) rfl #[.agg #[.slice A0_0 l0_0.length c0_0, .bool a0_1, .int .i64 a0_2], .string a1, .string a2] rfl (ar_) ?_; (with_reducible refine (gafferref02_Swap.calls k _ _ l0_0 a0_1 a0_2 a1 a2 t401 t404 t405 t406 _ ?side1 ?side2 A6.out).mono ?_); (case side1 => exact Kd.C_below HR0_0.out (bl_3 HB GE387 GE393 GE400)); (case side2 => exact HC0_0.out); rintro e w32 ⟨v402, rfl, ho0, hb⟩; refine ⟨_, rfl, ?_⟩; have HO403 := Aside0.mk (Kd.R_lower (Kd.R_new' (Kd.R_new' ho0 (Kd.R_lt (by (with_reducible repeat (first | apply Kd.R_alloc | apply Kd.R_drewN | apply Kd.R_drew)); exact (Kd.R_mono (Kd.R_far (p := ⟨gb400, 2, none⟩) (Kd.R_far (p := ⟨gb400, 1, none⟩) (Kd.R_far (p := ⟨gb400, 0, none⟩) (Kd.R_types HO390.out BK400.out (by decide)) (fun _ hk => hk.2) (.slice Ao27 t394.length co27)) (fun _ hk => hk.2) (.bool t397)) (fun _ hk => hk.2) (.int .i64 t398)) (fun _ h_ => h_.1))))) (Kd.R_lt (by (with_reducible repeat (first | apply Kd.R_alloc | apply Kd.R_drewN | apply Kd.R_drew)); exact (Kd.R_mono (Kd.R_far (p := ⟨gb400, 2, none⟩) (Kd.R_far (p := ⟨gb400, 1, none⟩) (Kd.R_far (p := ⟨gb400, 0, none⟩) (Kd.R_types HO396.out BK400.out (by decide)) (fun _ hk => hk.2) (.slice Ao27 t394.length co27)) (fun _ hk => hk.2) (.bool t397)) (fun _ hk => hk.2) (.int .i64 t398)) (fun _ h_ => h_.1))))) (below_size (bl_3 HB GE387 GE393 GE400))); replace HO390 := Aside0.mk (Kd.R_elder' (by (with_reducible repeat (first | apply Kd.R_alloc | apply Kd.R_drewN | apply Kd.R_drew)); exact (Kd.R_mono (Kd.R_far (p := ⟨gb400, 2, none⟩) (Kd.R_far (p := ⟨gb400, 1, none⟩) (Kd.R_far (p := ⟨gb400, 0, none⟩) (Kd.R_types HO390.out BK400.out (by decide)) (fun _ hk => hk.2) (.slice Ao27 t394.length co27)) (fun _ hk => hk.2) (.bool t397)) (fun _ hk => hk.2) (.int .i64 t398)) (fun _ h_ => h_.1))) (Kd.R_base ho0) hb); replace HO396 := Aside0.mk (Kd.R_elder' (by (with_reducible repeat (first | apply Kd.R_alloc | apply Kd.R_drewN | apply Kd.R_drew)); exact (Kd.R_mono (Kd.R_far (p := ⟨gb400, 2, none⟩) (Kd.R_far (p := ⟨gb400, 1, none⟩) (Kd.R_far (p := ⟨gb400, 0, none⟩) (Kd.R_types HO396.out BK400.out (by decide)) (fun _ hk => hk.2) (.slice Ao27 t394.length co27)) (fun _ hk => hk.2) (.bool t397)) (fun _ hk => hk.2) (.int .i64 t398)) (fun _ h_ => h_.1))) (Kd.R_base ho0) hb); replace BK387 := Aside0.mk (blk_below (g := gb387) (o := .cells #[.slice A0_0 l0_0.length c0_0, .bool a0_1, .int .i64 a0_2] 24 (0, 0)) (bp_1 BK387 NB387_400) hb); replace BK393 := Aside0.mk (blk_below (g := gb393) (o := .cells #[.slice Ao22 t388.length co22, .bool t391, .int .i64 t392] 24 (0, 0)) (bp_1 BK393 NB393_400) hb); replace BK400 := Aside0.mk (blk_below (g := gb400) (o := .cells #[.slice Ao27 t394.length co27, .bool t397, .int .i64 t398] 24 (0, 0)) (bp_0 BK400) hb); replace HB := Aside0.mk (below_step (bl_3 HB GE387 GE393 GE400) hb); (try clear hb); (try clear hb2); (try clear hk); (try clear hi); (try clear ho0)) | ((with_reducible refine gate_dst (N := 10) rfl ?_); refine box_event ?hg (N := 10) ?hd (cs := #[.slice none 0 0, .bool false, .int .i64 0]) (t := 24) ?hr ?_; (case hd => rfl); (case hg => rfl); (case hr => first | (go_simp; done) | (go_simp; rfl)); intro gb407 hg w33 hbox hb; replace HO390 := Aside0.mk (Kd.R_below (by (with_reducible repeat (first | apply Kd.R_alloc | apply Kd.R_drewN | apply Kd.R_drew)); exact HO390.out) hb); replace HO396 := Aside0.mk (Kd.R_below (by (with_reducible repeat (first | apply Kd.R_alloc | apply Kd.R_drewN | apply Kd.R_drew)); exact HO396.out) hb); replace HO403 := Aside0.mk (Kd.R_below (by (with_reducible repeat (first | apply Kd.R_alloc | apply Kd.R_drewN | apply Kd.R_drew)); exact HO403.out) hb); have BK407 := Aside0.mk (hbox); have GW407 := Aside0.mk (bs_3 hg HB GE387 GE393 GE400); have GE407 := Aside0.mk (bs_3 hg HB GE387 GE393 GE400); replace HB := Aside0.mk (below_step (bl_3 HB GE387 GE393 GE400) hb); have NB387_407 := Aside0.mk (nb_ hg BK387); have NB407_387 := Aside0.mk (nc_ hg BK387); replace BK387 := Aside0.mk (bb_ BK387 hb); have NB393_407 := Aside0.mk (nb_ hg BK393); have NB407_393 := Aside0.mk (nc_ hg BK393); replace BK393 := Aside0.mk (bb_ BK393 hb); have NB400_407 := Aside0.mk (nb_ hg BK400); have NB407_400 := Aside0.mk (nc_ hg BK400); replace BK400 := Aside0.mk (bb_ BK400 hb); clear hb hbox hg; obtain ⟨Ao34, co34, eo34⟩ := Kd.R_slice HO403.out; subst eo34; have hnb35 := NB407_387.out; have hnc35 := NB387_407.out; have hnb36 := NB407_393.out; have hnc36 := NB393_407.out; have hnb37 := NB407_400.out; have hnc37 := NB400_407.out; obtain ⟨hcz38_0, hcz38_1, hcz38_2, hfz38_0, hfz38_1, hfz38_2⟩ := c3_ BK407; obtain ⟨hcz39_0, hcz39_1, hcz39_2, hfz39_0, hfz39_1, hfz39_2⟩ := c3_ BK393) | ((with_reducible refine gate_callee (f := 26) rfl ?_); refine goesL_ (some 35) rfl rfl Try.func26 (by kernel_rfl) rfl #[.agg #[.slice Ao22 t388.length co22, .bool t391, .int .i64 t392], .string a1] rfl (ar_) ?_; (with_reducible refine (disk_Drop.calls k _ _ t388 t391 t392 a1 t408 t411 t412 t413 _ ?side1 ?side2 A7.out).mono ?_); (case side1 => refine (Kd.R_reads' (e := 35) (base := w.heap.size) (ok := fun k_ => ((True ∧ some k_ ≠ (.slice Ao27 t394.length co27 : Value).ownBlock) ∧ some k_ ≠ (.slice Ao34 t401.length co34 : Value).ownBlock)) (n := t388.length) (c := co22) ?_).2.2; exact (by (with_reducible repeat (first | apply Kd.R_alloc | apply Kd.R_drewN | apply Kd.R_drew)); exact (Kd.R_mono (Kd.R_far (p := ⟨gb407, 2, none⟩) (Kd.R_far (p := ⟨gb407, 1, none⟩) (Kd.R_far (p := ⟨gb407, 0, none⟩) (Kd.R_types HO390.out BK407.out (by decide)) (fun _ hk => hk.2) (.slice Ao34 t401.length co34)) (fun _ hk => hk.2) (.bool t404)) (fun _ hk => hk.2) (.int .i64 t405)) (fun _ h_ => h_.1)))); (case side2 => exact (Kd.R_reads' HO390.out).2.1); rintro e w40 ⟨v409, rfl, ho0, hb⟩; refine ⟨_, rfl, ?_⟩; have HO410 := Aside0.mk (Kd.R_lower (Kd.R_new' (Kd.R_new' (Kd.R_new' ho0 (Kd.R_lt (by (with_reducible repeat (first | apply Kd.R_alloc | apply Kd.R_drewN | apply Kd.R_drew)); exact (Kd.R_mono (Kd.R_far (p := ⟨gb407, 2, none⟩) (Kd.R_far (p := ⟨gb407, 1, none⟩) (Kd.R_far (p := ⟨gb407, 0, none⟩) (Kd.R_types HO390.out BK407.out (by decide)) (fun _ hk => hk.2) (.slice Ao34 t401.length co34)) (fun _ hk => hk.2) (.bool t404)) (fun _ hk => hk.2) (.int .i64 t405)) (fun _ h_ => h_.1))))) (Kd.R_lt (by (with_reducible repeat (first | apply Kd.R_alloc | apply Kd.R_drewN | apply Kd.R_drew)); exact (Kd.R_mono (Kd.R_far (p := ⟨gb407, 2, none⟩) (Kd.R_far (p := ⟨gb407, 1, none⟩) (Kd.R_far (p := ⟨gb407, 0, none⟩) (Kd.R_types HO396.out BK407.out (by decide)) (fun _ hk => hk.2) (.slice Ao34 t401.length co34)) (fun _ hk => hk.2) (.bool t404)) (fun _ hk => hk.2) (.int .i64 t405)) (fun _ h_ => h_.1))))) (Kd.R_lt (by (with_reducible repeat (first | apply Kd.R_alloc | apply Kd.R_drewN | apply Kd.R_drew)); exact (Kd.R_mono (Kd.R_far (p := ⟨gb407, 2, none⟩) (Kd.R_far (p := ⟨gb407, 1, none⟩) (Kd.R_far (p := ⟨gb407, 0, none⟩) (Kd.R_types HO403.out BK407.out (by decide)) (fun _ hk => hk.2) (.slice Ao34 t401.length co34)) (fun _ hk => hk.2) (.bool t404)) (fun _ hk => hk.2) (.int .i64 t405)) (fun _ h_ => h_.1))))) (below_size (bl_4 HB GE387 GE393 GE400 GE407))); replace HO390 := Aside0.mk (Kd.R_elder' (by (with_reducible repeat (first | apply Kd.R_alloc | apply Kd.R_drewN | apply Kd.R_drew)); exact (Kd.R_mono (Kd.R_far (p := ⟨gb407, 2, none⟩) (Kd.R_far (p := ⟨gb407, 1, none⟩) (Kd.R_far (p := ⟨gb407, 0, none⟩) (Kd.R_types HO390.out BK407.out (by decide)) (fun _ hk => hk.2) (.slice Ao34 t401.length co34)) (fun _ hk => hk.2) (.bool t404)) (fun _ hk => hk.2) (.int .i64 t405)) (fun _ h_ => h_.1))) (Kd.R_base ho0) hb); replace HO396 := Aside0.mk (Kd.R_elder' (by (with_reducible repeat (first | apply Kd.R_alloc | apply Kd.R_drewN | apply Kd.R_drew)); exact (Kd.R_mono (Kd.R_far (p := ⟨gb407, 2, none⟩) (Kd.R_far (p := ⟨gb407, 1, none⟩) (Kd.R_far (p := ⟨gb407, 0, none⟩) (Kd.R_types HO396.out BK407.out (by decide)) (fun _ hk => hk.2) (.slice Ao34 t401.length co34)) (fun _ hk => hk.2) (.bool t404)) (fun _ hk => hk.2) (.int .i64 t405)) (fun _ h_ => h_.1))) (Kd.R_base ho0) hb); replace HO403 := Aside0.mk (Kd.R_elder' (by (with_reducible repeat (first | apply Kd.R_alloc | apply Kd.R_drewN | apply Kd.R_drew)); exact (Kd.R_mono (Kd.R_far (p := ⟨gb407, 2, none⟩) (Kd.R_far (p := ⟨gb407, 1, none⟩) (Kd.R_far (p := ⟨gb407, 0, none⟩) (Kd.R_types HO403.out BK407.out (by decide)) (fun _ hk => hk.2) (.slice Ao34 t401.length co34)) (fun _ hk => hk.2) (.bool t404)) (fun _ hk => hk.2) (.int .i64 t405)) (fun _ h_ => h_.1))) (Kd.R_base ho0) hb); replace BK387 := Aside0.mk (blk_below (g := gb387) (o := .cells #[.slice A0_0 l0_0.length c0_0, .bool a0_1, .int .i64 a0_2] 24 (0, 0)) (bp_1 BK387 NB387_407) hb); replace BK393 := Aside0.mk (blk_below (g := gb393) (o := .cells #[.slice Ao22 t388.length co22, .bool t391, .int .i64 t392] 24 (0, 0)) (bp_1 BK393 NB393_407) hb); replace BK400 := Aside0.mk (blk_below (g := gb400) (o := .cells #[.slice Ao27 t394.length co27, .bool t397, .int .i64 t398] 24 (0, 0)) (bp_1 BK400 NB400_407) hb); replace BK407 := Aside0.mk (blk_below (g := gb407) (o := .cells #[.slice Ao34 t401.length co34, .bool t404, .int .i64 t405] 24 (0, 0)) (bp_0 BK407) hb); replace HB := Aside0.mk (below_step (bl_4 HB GE387 GE393 GE400 GE407) hb); (try clear hb); (try clear hb2); (try clear hk); (try clear hi); (try clear ho0)) | ((with_reducible refine gate_dst (N := 12) rfl ?_); refine box_event ?hg (N := 12) ?hd (cs := #[.slice none 0 0, .bool false, .int .i64 0]) (t := 24) ?hr ?_; (case hd => rfl); (case hg => rfl); (case hr => first | (go_simp; done) | (go_simp; rfl)); intro gb414 hg w41 hbox hb; replace HO390 := Aside0.mk (Kd.R_below (by (with_reducible repeat (first | apply Kd.R_alloc | apply Kd.R_drewN | apply Kd.R_drew)); exact HO390.out) hb); replace HO396 := Aside0.mk (Kd.R_below (by (with_reducible repeat (first | apply Kd.R_alloc | apply Kd.R_drewN | apply Kd.R_drew)); exact HO396.out) hb); replace HO403 := Aside0.mk (Kd.R_below (by (with_reducible repeat (first | apply Kd.R_alloc | apply Kd.R_drewN | apply Kd.R_drew)); exact HO403.out) hb); replace HO410 := Aside0.mk (Kd.R_below (by (with_reducible repeat (first | apply Kd.R_alloc | apply Kd.R_drewN | apply Kd.R_drew)); exact HO410.out) hb); have BK414 := Aside0.mk (hbox); have GW414 := Aside0.mk (bs_4 hg HB GE387 GE393 GE400 GE407); have GE414 := Aside0.mk (bs_4 hg HB GE387 GE393 GE400 GE407); replace HB := Aside0.mk (below_step (bl_4 HB GE387 GE393 GE400 GE407) hb); have NB387_414 := Aside0.mk (nb_ hg BK387); have NB414_387 := Aside0.mk (nc_ hg BK387); replace BK387 := Aside0.mk (bb_ BK387 hb); have NB393_414 := Aside0.mk (nb_ hg BK393); have NB414_393 := Aside0.mk (nc_ hg BK393); replace BK393 := Aside0.mk (bb_ BK393 hb); have NB400_414 := Aside0.mk (nb_ hg BK400); have NB414_400 := Aside0.mk (nc_ hg BK400); replace BK400 := Aside0.mk (bb_ BK400 hb); have NB407_414 := Aside0.mk (nb_ hg BK407); have NB414_407 := Aside0.mk (nc_ hg BK407); replace BK407 := Aside0.mk (bb_ BK407 hb); clear hb hbox hg; obtain ⟨Ao42, co42, eo42⟩ := Kd.R_slice HO410.out; subst eo42; have hnb43 := NB414_387.out; have hnc43 := NB387_414.out; have hnb44 := NB414_393.out; have hnc44 := NB393_414.out; have hnb45 := NB414_400.out; have hnc45 := NB400_414.out; have hnb46 := NB414_407.out; have hnc46 := NB407_414.out; obtain ⟨hcz47_0, hcz47_1, hcz47_2, hfz47_0, hfz47_1, hfz47_2⟩ := c3_ BK414; obtain ⟨hcz48_0, hcz48_1, hcz48_2, hfz48_0, hfz48_1, hfz48_2⟩ := c3_ BK387) | ((with_reducible refine gate_callee (f := 27) rfl ?_); refine goesL_ (some 41) rfl rfl Try.func27 (by kernel_rfl) rfl #[.agg #[.slice A0_0 l0_0.length c0_0, .bool a0_1, .int .i64 a0_2], .string a1] rfl (ar_) ?_; (with_reducible refine (gafferref02_Drop.calls k _ _ l0_0 a0_1 a0_2 a1 t415 t418 t419 t420 _ ?side1 ?side2 A8.out).mono ?_); (case side1 => exact Kd.C_below HR0_0.out (bl_5 HB GE387 GE393 GE400 GE407 GE414)); (case side2 => exact HC0_0.out); rintro e w49 ⟨v416, rfl, ho0, hb⟩; refine ⟨_, rfl, ?_⟩; have HO417 := Aside0.mk (Kd.R_lower (Kd.R_new' (Kd.R_new' (Kd.R_new' (Kd.R_new' ho0 (Kd.R_lt (by (with_reducible repeat (first | apply Kd.R_alloc | apply Kd.R_drewN | apply Kd.R_drew)); exact (Kd.R_mono (Kd.R_far (p := ⟨gb414, 2, none⟩) (Kd.R_far (p := ⟨gb414, 1, none⟩) (Kd.R_far (p := ⟨gb414, 0, none⟩) (Kd.R_types HO390.out BK414.out (by decide)) (fun _ hk => hk.2) (.slice Ao42 t408.length co42)) (fun _ hk => hk.2) (.bool t411)) (fun _ hk => hk.2) (.int .i64 t412)) (fun _ h_ => h_.1))))) (Kd.R_lt (by (with_reducible repeat (first | apply Kd.R_alloc | apply Kd.R_drewN | apply Kd.R_drew)); exact (Kd.R_mono (Kd.R_far (p := ⟨gb414, 2, none⟩) (Kd.R_far (p := ⟨gb414, 1, none⟩) (Kd.R_far (p := ⟨gb414, 0, none⟩) (Kd.R_types HO396.out BK414.out (by decide)) (fun _ hk => hk.2) (.slice Ao42 t408.length co42)) (fun _ hk => hk.2) (.bool t411)) (fun _ hk => hk.2) (.int .i64 t412)) (fun _ h_ => h_.1))))) (Kd.R_lt (by (with_reducible repeat (first | apply Kd.R_alloc | apply Kd.R_drewN | apply Kd.R_drew)); exact (Kd.R_mono (Kd.R_far (p := ⟨gb414, 2, none⟩) (Kd.R_far (p := ⟨gb414, 1, none⟩) (Kd.R_far (p := ⟨gb414, 0, none⟩) (Kd.R_types HO403.out BK414.out (by decide)) (fun _ hk => hk.2) (.slice Ao42 t408.length co42)) (fun _ hk => hk.2) (.bool t411)) (fun _ hk => hk.2) (.int .i64 t412)) (fun _ h_ => h_.1))))) (Kd.R_lt (by (with_reducible repeat (first | apply Kd.R_alloc | apply Kd.R_drewN | apply Kd.R_drew)); exact (Kd.R_mono (Kd.R_far (p := ⟨gb414, 2, none⟩) (Kd.R_far (p := ⟨gb414, 1, none⟩) (Kd.R_far (p := ⟨gb414, 0, none⟩) (Kd.R_types HO410.out BK414.out (by decide)) (fun _ hk => hk.2) (.slice Ao42 t408.length co42)) (fun _ hk => hk.2) (.bool t411)) (fun _ hk => hk.2) (.int .i64 t412)) (fun _ h_ => h_.1))))) (below_size (bl_5 HB GE387 GE393 GE400 GE407 GE414))); replace HO390 := Aside0.mk (Kd.R_elder' (by (with_reducible repeat (first | apply Kd.R_alloc | apply Kd.R_drewN | apply Kd.R_drew)); exact (Kd.R_mono (Kd.R_far (p := ⟨gb414, 2, none⟩) (Kd.R_far (p := ⟨gb414, 1, none⟩) (Kd.R_far (p := ⟨gb414, 0, none⟩) (Kd.R_types HO390.out BK414.out (by decide)) (fun _ hk => hk.2) (.slice Ao42 t408.length co42)) (fun _ hk => hk.2) (.bool t411)) (fun _ hk => hk.2) (.int .i64 t412)) (fun _ h_ => h_.1))) (Kd.R_base ho0) hb); replace HO396 := Aside0.mk (Kd.R_elder' (by (with_reducible repeat (first | apply Kd.R_alloc | apply Kd.R_drewN | apply Kd.R_drew)); exact (Kd.R_mono (Kd.R_far (p := ⟨gb414, 2, none⟩) (Kd.R_far (p := ⟨gb414, 1, none⟩) (Kd.R_far (p := ⟨gb414, 0, none⟩) (Kd.R_types HO396.out BK414.out (by decide)) (fun _ hk => hk.2) (.slice Ao42 t408.length co42)) (fun _ hk => hk.2) (.bool t411)) (fun _ hk => hk.2) (.int .i64 t412)) (fun _ h_ => h_.1))) (Kd.R_base ho0) hb); replace HO403 := Aside0.mk (Kd.R_elder' (by (with_reducible repeat (first | apply Kd.R_alloc | apply Kd.R_drewN | apply Kd.R_drew)); exact (Kd.R_mono (Kd.R_far (p := ⟨gb414, 2, none⟩) (Kd.R_far (p := ⟨gb414, 1, none⟩) (Kd.R_far (p := ⟨gb414, 0, none⟩) (Kd.R_types HO403.out BK414.out (by decide)) (fun _ hk => hk.2) (.slice Ao42 t408.length co42)) (fun _ hk => hk.2) (.bool t411)) (fun _ hk => hk.2) (.int .i64 t412)) (fun _ h_ => h_.1))) (Kd.R_base ho0) hb); replace HO410 := Aside0.mk (Kd.R_elder' (by (with_reducible repeat (first | apply Kd.R_alloc | apply Kd.R_drewN | apply Kd.R_drew)); exact (Kd.R_mono (Kd.R_far (p := ⟨gb414, 2, none⟩) (Kd.R_far (p := ⟨gb414, 1, none⟩) (Kd.R_far (p := ⟨gb414, 0, none⟩) (Kd.R_types HO410.out BK414.out (by decide)) (fun _ hk => hk.2) (.slice Ao42 t408.length co42)) (fun _ hk => hk.2) (.bool t411)) (fun _ hk => hk.2) (.int .i64 t412)) (fun _ h_ => h_.1))) (Kd.R_base ho0) hb); replace BK387 := Aside0.mk (blk_below (g := gb387) (o := .cells #[.slice A0_0 l0_0.length c0_0, .bool a0_1, .int .i64 a0_2] 24 (0, 0)) (bp_1 BK387 NB387_414) hb); replace BK393 := Aside0.mk (blk_below (g := gb393) (o := .cells #[.slice Ao22 t388.length co22, .bool t391, .int .i64 t392] 24 (0, 0)) (bp_1 BK393 NB393_414) hb); replace BK400 := Aside0.mk (blk_below (g := gb400) (o := .cells #[.slice Ao27 t394.length co27, .bool t397, .int .i64 t398] 24 (0, 0)) (bp_1 BK400 NB400_414) hb); replace BK407 := Aside0.mk (blk_below (g := gb407) (o := .cells #[.slice Ao34 t401.length co34, .bool t404, .int .i64 t405] 24 (0, 0)) (bp_1 BK407 NB407_414) hb); replace BK414 := Aside0.mk (blk_below (g := gb414) (o := .cells #[.slice Ao42 t408.length co42, .bool t411, .int .i64 t412] 24 (0, 0)) (bp_0 BK414) hb); replace HB := Aside0.mk (below_step (bl_5 HB GE387 GE393 GE400 GE407 GE414) hb); (try clear hb); (try clear hb2); (try clear hk); (try clear hi); (try clear ho0)) | ((with_reducible refine gate_dst (N := 14) rfl ?_); refine box_event ?hg (N := 14) ?hd (cs := #[.slice none 0 0, .bool false, .int .i64 0]) (t := 24) ?hr ?_; (case hd => rfl); (case hg => rfl); (case hr => first | (go_simp; done) | (go_simp; rfl)); intro gb421 hg w50 hbox hb; replace HO390 := Aside0.mk (Kd.R_below (by (with_reducible repeat (first | apply Kd.R_alloc | apply Kd.R_drewN | apply Kd.R_drew)); exact HO390.out) hb); replace HO396 := Aside0.mk (Kd.R_below (by (with_reducible repeat (first | apply Kd.R_alloc | apply Kd.R_drewN | apply Kd.R_drew)); exact HO396.out) hb); replace HO403 := Aside0.mk (Kd.R_below (by (with_reducible repeat (first | apply Kd.R_alloc | apply Kd.R_drewN | apply Kd.R_drew)); exact HO403.out) hb); replace HO410 := Aside0.mk (Kd.R_below (by (with_reducible repeat (first | apply Kd.R_alloc | apply Kd.R_drewN | apply Kd.R_drew)); exact HO410.out) hb); replace HO417 := Aside0.mk (Kd.R_below (by (with_reducible repeat (first | apply Kd.R_alloc | apply Kd.R_drewN | apply Kd.R_drew)); exact HO417.out) hb); have BK421 := Aside0.mk (hbox); have GW421 := Aside0.mk (bs_5 hg HB GE387 GE393 GE400 GE407 GE414); have GE421 := Aside0.mk (bs_5 hg HB GE387 GE393 GE400 GE407 GE414); replace HB := Aside0.mk (below_step (bl_5 HB GE387 GE393 GE400 GE407 GE414) hb); have NB387_421 := Aside0.mk (nb_ hg BK387); have NB421_387 := Aside0.mk (nc_ hg BK387); replace BK387 := Aside0.mk (bb_ BK387 hb); have NB393_421 := Aside0.mk (nb_ hg BK393); have NB421_393 := Aside0.mk (nc_ hg BK393); replace BK393 := Aside0.mk (bb_ BK393 hb); have NB400_421 := Aside0.mk (nb_ hg BK400); have NB421_400 := Aside0.mk (nc_ hg BK400); replace BK400 := Aside0.mk (bb_ BK400 hb); have NB407_421 := Aside0.mk (nb_ hg BK407); have NB421_407 := Aside0.mk (nc_ hg BK407); replace BK407 := Aside0.mk (bb_ BK407 hb); have NB414_421 := Aside0.mk (nb_ hg BK414); have NB421_414 := Aside0.mk (nc_ hg BK414); replace BK414 := Aside0.mk (bb_ BK414 hb); clear hb hbox hg; obtain ⟨Ao51, co51, eo51⟩ := Kd.R_slice HO417.out; subst eo51; have hnb52 := NB421_387.out; have hnc52 := NB387_421.out; have hnb53 := NB421_393.out; have hnc53 := NB393_421.out; have hnb54 := NB421_400.out; have hnc54 := NB400_421.out; have hnb55 := NB421_407.out; have hnc55 := NB407_421.out; have hnb56 := NB421_414.out; have hnc56 := NB414_421.out; obtain ⟨hcz57_0, hcz57_1, hcz57_2, hfz57_0, hfz57_1, hfz57_2⟩ := c3_ BK421) | ((with_reducible refine gate_callee (f := 14) rfl ?_); refine goesL_ (some 44) rfl rfl Try.func14 (by kernel_rfl) rfl #[] rfl (ar_) ?_; (with_reducible refine (gafferlaw02_lives.calls k  true _ A9.out).mono ?_); rintro e w58 ⟨rfl, hb⟩; refine ⟨_, rfl, ?_⟩; replace HO390 := Aside0.mk (Kd.R_below (by (with_reducible repeat (first | apply Kd.R_alloc | apply Kd.R_drewN | apply Kd.R_drew)); exact (Kd.R_mono (Kd.R_far (p := ⟨gb421, 2, none⟩) (Kd.R_far (p := ⟨gb421, 1, none⟩) (Kd.R_far (p := ⟨gb421, 0, none⟩) (Kd.R_types HO390.out BK421.out (by decide)) (fun _ hk => hk.2) (.slice Ao51 t415.length co51)) (fun _ hk => hk.2) (.bool t418)) (fun _ hk => hk.2) (.int .i64 t419)) (fun _ h_ => h_.1))) hb); replace HO396 := Aside0.mk (Kd.R_below (by (with_reducible repeat (first | apply Kd.R_alloc | apply Kd.R_drewN | apply Kd.R_drew)); exact (Kd.R_mono (Kd.R_far (p := ⟨gb421, 2, none⟩) (Kd.R_far (p := ⟨gb421, 1, none⟩) (Kd.R_far (p := ⟨gb421, 0, none⟩) (Kd.R_types HO396.out BK421.out (by decide)) (fun _ hk => hk.2) (.slice Ao51 t415.length co51)) (fun _ hk => hk.2) (.bool t418)) (fun _ hk => hk.2) (.int .i64 t419)) (fun _ h_ => h_.1))) hb); replace HO403 := Aside0.mk (Kd.R_below (by (with_reducible repeat (first | apply Kd.R_alloc | apply Kd.R_drewN | apply Kd.R_drew)); exact (Kd.R_mono (Kd.R_far (p := ⟨gb421, 2, none⟩) (Kd.R_far (p := ⟨gb421, 1, none⟩) (Kd.R_far (p := ⟨gb421, 0, none⟩) (Kd.R_types HO403.out BK421.out (by decide)) (fun _ hk => hk.2) (.slice Ao51 t415.length co51)) (fun _ hk => hk.2) (.bool t418)) (fun _ hk => hk.2) (.int .i64 t419)) (fun _ h_ => h_.1))) hb); replace HO410 := Aside0.mk (Kd.R_below (by (with_reducible repeat (first | apply Kd.R_alloc | apply Kd.R_drewN | apply Kd.R_drew)); exact (Kd.R_mono (Kd.R_far (p := ⟨gb421, 2, none⟩) (Kd.R_far (p := ⟨gb421, 1, none⟩) (Kd.R_far (p := ⟨gb421, 0, none⟩) (Kd.R_types HO410.out BK421.out (by decide)) (fun _ hk => hk.2) (.slice Ao51 t415.length co51)) (fun _ hk => hk.2) (.bool t418)) (fun _ hk => hk.2) (.int .i64 t419)) (fun _ h_ => h_.1))) hb); replace HO417 := Aside0.mk (Kd.R_below (by (with_reducible repeat (first | apply Kd.R_alloc | apply Kd.R_drewN | apply Kd.R_drew)); exact (Kd.R_mono (Kd.R_far (p := ⟨gb421, 2, none⟩) (Kd.R_far (p := ⟨gb421, 1, none⟩) (Kd.R_far (p := ⟨gb421, 0, none⟩) (Kd.R_types HO417.out BK421.out (by decide)) (fun _ hk => hk.2) (.slice Ao51 t415.length co51)) (fun _ hk => hk.2) (.bool t418)) (fun _ hk => hk.2) (.int .i64 t419)) (fun _ h_ => h_.1))) hb); replace BK387 := Aside0.mk (blk_below (g := gb387) (o := .cells #[.slice A0_0 l0_0.length c0_0, .bool a0_1, .int .i64 a0_2] 24 (0, 0)) (bp_1 BK387 NB387_421) hb); replace BK393 := Aside0.mk (blk_below (g := gb393) (o := .cells #[.slice Ao22 t388.length co22, .bool t391, .int .i64 t392] 24 (0, 0)) (bp_1 BK393 NB393_421) hb); replace BK400 := Aside0.mk (blk_below (g := gb400) (o := .cells #[.slice Ao27 t394.length co27, .bool t397, .int .i64 t398] 24 (0, 0)) (bp_1 BK400 NB400_421) hb); replace BK407 := Aside0.mk (blk_below (g := gb407) (o := .cells #[.slice Ao34 t401.length co34, .bool t404, .int .i64 t405] 24 (0, 0)) (bp_1 BK407 NB407_421) hb); replace BK414 := Aside0.mk (blk_below (g := gb414) (o := .cells #[.slice Ao42 t408.length co42, .bool t411, .int .i64 t412] 24 (0, 0)) (bp_1 BK414 NB414_421) hb); replace BK421 := Aside0.mk (blk_below (g := gb421) (o := .cells #[.slice Ao51 t415.length co51, .bool t418, .int .i64 t419] 24 (0, 0)) (bp_0 BK421) hb); replace HB := Aside0.mk (below_step (bl_6 HB GE387 GE393 GE400 GE407 GE414 GE421) hb); (try clear hb); (try clear hb2); (try clear hk); (try clear hi); obtain ⟨hcz59_0, hcz59_1, hcz59_2, hfz59_0, hfz59_1, hfz59_2⟩ := c3_ BK400; obtain ⟨hcz60_0, hcz60_1, hcz60_2, hfz60_0, hfz60_1, hfz60_2⟩ := c3_ BK407) | (go_at_call 15; (with_reducible refine (gafferref02_Same.calls k _ _ t394 t397 t398 _ _ t401 t404 t405 true _ ?side1 ?side2 ?side3 ?side4 A11.out).mono ?_); (case side1 => repeat (first | exact (Kd.R_reads' HO396.out).2.2 | (with_reducible refine Kd.C_alloc ?_ _) | (with_reducible refine Kd.C_drewN ?_ _) | (with_reducible refine Kd.C_drew ?_))); (case side2 => exact (Kd.R_reads' HO396.out).2.1); (case side3 => repeat (first | exact (Kd.R_reads' HO403.out).2.2 | (with_reducible refine Kd.C_alloc ?_ _) | (with_reducible refine Kd.C_drewN ?_ _) | (with_reducible refine Kd.C_drew ?_))); (case side4 => exact (Kd.R_reads' HO403.out).2.1); rintro e w61 ⟨rfl, hb⟩; replace HO390 := Aside0.mk (Kd.R_below (by (with_reducible repeat (first | apply Kd.R_alloc | apply Kd.R_drewN | apply Kd.R_drew)); exact HO390.out) hb); replace HO396 := Aside0.mk (Kd.R_below (by (with_reducible repeat (first | apply Kd.R_alloc | apply Kd.R_drewN | apply Kd.R_drew)); exact HO396.out) hb); replace HO403 := Aside0.mk (Kd.R_below (by (with_reducible repeat (first | apply Kd.R_alloc | apply Kd.R_drewN | apply Kd.R_drew)); exact HO403.out) hb); replace HO410 := Aside0.mk (Kd.R_below (by (with_reducible repeat (first | apply Kd.R_alloc | apply Kd.R_drewN | apply Kd.R_drew)); exact HO410.out) hb); replace HO417 := Aside0.mk (Kd.R_below (by (with_reducible repeat (first | apply Kd.R_alloc | apply Kd.R_drewN | apply Kd.R_drew)); exact HO417.out) hb); replace BK387 := Aside0.mk (bb_ BK387 hb); replace BK393 := Aside0.mk (bb_ BK393 hb); replace BK400 := Aside0.mk (bb_ BK400 hb); replace BK407 := Aside0.mk (bb_ BK407 hb); replace BK414 := Aside0.mk (bb_ BK414 hb); replace BK421 := Aside0.mk (bb_ BK421 hb); replace HB := Aside0.mk (below_step (bl_6 HB GE387 GE393 GE400 GE407 GE414 GE421) hb); (try clear hb); (try clear hb2); (try clear hk); (try clear hi); obtain ⟨hcz62_0, hcz62_1, hcz62_2, hfz62_0, hfz62_1, hfz62_2⟩ := c3_ BK414; obtain ⟨hcz63_0, hcz63_1, hcz63_2, hfz63_0, hfz63_1, hfz63_2⟩ := c3_ BK421) | (go_at_call 15; (with_reducible refine (gafferref02_Same.calls k _ _ t408 t411 t412 _ _ t415 t418 t419 true _ ?side1 ?side2 ?side3 ?side4 A14.out).mono ?_); (case side1 => repeat (first | exact (Kd.R_reads' HO410.out).2.2 | (with_reducible refine Kd.C_alloc ?_ _) | (with_reducible refine Kd.C_drewN ?_ _) | (with_reducible refine Kd.C_drew ?_))); (case side2 => exact (Kd.R_reads' HO410.out).2.1); (case side3 => repeat (first | exact (Kd.R_reads' HO417.out).2.2 | (with_reducible refine Kd.C_alloc ?_ _) | (with_reducible refine Kd.C_drewN ?_ _) | (with_reducible refine Kd.C_drew ?_))); (case side4 => exact (Kd.R_reads' HO417.out).2.1); rintro e w64 ⟨rfl, hb⟩; replace HO390 := Aside0.mk (Kd.R_below (by (with_reducible repeat (first | apply Kd.R_alloc | apply Kd.R_drewN | apply Kd.R_drew)); exact HO390.out) hb); replace HO396 := Aside0.mk (Kd.R_below (by (with_reducible repeat (first | apply Kd.R_alloc | apply Kd.R_drewN | apply Kd.R_drew)); exact HO396.out) hb); replace HO403 := Aside0.mk (Kd.R_below (by (with_reducible repeat (first | apply Kd.R_alloc | apply Kd.R_drewN | apply Kd.R_drew)); exact HO403.out) hb); replace HO410 := Aside0.mk (Kd.R_below (by (with_reducible repeat (first | apply Kd.R_alloc | apply Kd.R_drewN | apply Kd.R_drew)); exact HO410.out) hb); replace HO417 := Aside0.mk (Kd.R_below (by (with_reducible repeat (first | apply Kd.R_alloc | apply Kd.R_drewN | apply Kd.R_drew)); exact HO417.out) hb); replace BK387 := Aside0.mk (bb_ BK387 hb); replace BK393 := Aside0.mk (bb_ BK393 hb); replace BK400 := Aside0.mk (bb_ BK400 hb); replace BK407 := Aside0.mk (bb_ BK407 hb); replace BK414 := Aside0.mk (bb_ BK414 hb); replace BK421 := Aside0.mk (bb_ BK421 hb); replace HB := Aside0.mk (below_step (bl_6 HB GE387 GE393 GE400 GE407 GE414 GE421) hb); (try clear hb); (try clear hb2); (try clear hk); (try clear hi); obtain ⟨hcz65_0, hcz65_1, hcz65_2, hfz65_0, hfz65_1, hfz65_2⟩ := c3_ BK393; obtain ⟨hcz66_0, hcz66_1, hcz66_2, hfz66_0, hfz66_1, hfz66_2⟩ := c3_ BK387) | (go_at_call 15; (with_reducible refine (gafferref02_Same.calls k _ _ t388 t391 t392 _ _ l0_0 a0_1 a0_2 t425 _ ?side1 ?side2 ?side3 ?side4 A17.out).mono ?_); (case side1 => repeat (first | exact (Kd.R_reads' HO390.out).2.2 | (with_reducible refine Kd.C_alloc ?_ _) | (with_reducible refine Kd.C_drewN ?_ _) | (with_reducible refine Kd.C_drew ?_))); (case side2 => exact (Kd.R_reads' HO390.out).2.1); (case side3 => repeat (first | exact (Kd.C_below HR0_0.out HB.out) | (with_reducible refine Kd.C_alloc ?_ _) | (with_reducible refine Kd.C_drewN ?_ _) | (with_reducible refine Kd.C_drew ?_))); (case side4 => exact HC0_0.out); rintro e w67 ⟨rfl, hb⟩; replace HO390 := Aside0.mk (Kd.R_below (by (with_reducible repeat (first | apply Kd.R_alloc | apply Kd.R_drewN | apply Kd.R_drew)); exact HO390.out) hb); replace HO396 := Aside0.mk (Kd.R_below (by (with_reducible repeat (first | apply Kd.R_alloc | apply Kd.R_drewN | apply Kd.R_drew)); exact HO396.out) hb); replace HO403 := Aside0.mk (Kd.R_below (by (with_reducible repeat (first | apply Kd.R_alloc | apply Kd.R_drewN | apply Kd.R_drew)); exact HO403.out) hb); replace HO410 := Aside0.mk (Kd.R_below (by (with_reducible repeat (first | apply Kd.R_alloc | apply Kd.R_drewN | apply Kd.R_drew)); exact HO410.out) hb); replace HO417 := Aside0.mk (Kd.R_below (by (with_reducible repeat (first | apply Kd.R_alloc | apply Kd.R_drewN | apply Kd.R_drew)); exact HO417.out) hb); replace BK387 := Aside0.mk (bb_ BK387 hb); replace BK393 := Aside0.mk (bb_ BK393 hb); replace BK400 := Aside0.mk (bb_ BK400 hb); replace BK407 := Aside0.mk (bb_ BK407 hb); replace BK414 := Aside0.mk (bb_ BK414 hb); replace BK421 := Aside0.mk (bb_ BK421 hb); replace HB := Aside0.mk (below_step (bl_6 HB GE387 GE393 GE400 GE407 GE414 GE421) hb); (try clear hb); (try clear hb2); (try clear hk); (try clear hi)))
      go_ret
      exact ⟨by first | rfl | (simp; done) | (simp [*]; done), bl_6 HB GE387 GE393 GE400 GE407 GE414 GE421⟩
     ·rw [if_neg c16] at H
      have c16b0 : (t413 == t420) = false := beq_eq_false_iff_ne.mpr c16
      have c16b1 : (t413 != t420) = true := bne_iff_ne.mpr c16
      exact absurd (H.trans (congrArg some hr)) (by simp)
    ·replace c15 := Bool.eq_false_iff.mpr c15
     subst c15
     have H1 : (some false) = some r := by rw [if_neg (show ¬ (false = true) by decide)] at H; exact H
     clear H
     have H := H1
     clear H1
     exact absurd (H.trans (congrArg some hr)) (by simp)
   ·rw [if_neg c13] at H
    have c13b0 : (t399 == t406) = false := beq_eq_false_iff_ne.mpr c13
    have c13b1 : (t399 != t406) = true := bne_iff_ne.mpr c13
    exact absurd (H.trans (congrArg some hr)) (by simp)
  ·replace c12 := Bool.eq_false_iff.mpr c12
   subst c12
   have H1 : (some false) = some r := by rw [if_neg (show ¬ (false = true) by decide)] at H; exact H
   clear H
   have H := H1
   clear H1
   exact absurd (H.trans (congrArg some hr)) (by simp)
 ·replace c10 := Bool.eq_false_iff.mpr c10
  subst c10
  have H1 : (some false) = some r := by rw [if_neg (show ¬ (false = true) by decide)] at H; exact H
  clear H
  have H := H1
  clear H1
  exact absurd (H.trans (congrArg some hr)) (by simp)

/-- THE ONE PURE STATEMENT of gafferlaw02_DiskNames: yours. -/
def gafferlaw02_DiskNames.Pure : Prop := ∀ (x0 : S24) (x1 : ByteArray) (x2 : ByteArray), ok24 x0 → okStr x1 → okStr x2 → ∃ k, gafferlaw02_DiskNames.f k x0.f0 x0.f1 x0.f2 x1 x2 = some true

end Go.Proofs.Ytpdacpopkegecaa.PA
