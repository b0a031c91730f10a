-- Written for this claim by a program of this session. Lean checks it.
import Derived.Test.YtpdacpopkegecaaPAx0
import Derived.Test.YtpdacpopkegecaaPAx1
import Derived.Test.YtpdacpopkegecaaPAx3
import Derived.Test.YtpdacpopkegecaaPAx4
import Derived.Test.YtpdacpopkegecaaPAx7
namespace Go.Proofs.Ytpdacpopkegecaa.PA
open Go.RowKit Go.Proofs.YtpdacpopkegecaaW.PrintWords Go.Proofs.YtpdacpopkegecaaW.PrintLast Go.Proofs.YtpdacpopkegecaaW.PrintMore Go.Proofs.Ytpdacpopkegecaa.Sh Go.Proofs.Ytpdacpopkegecaa.Op
attribute [local go_sem] max2_int min2_int max_two min_two max_three min_three max_four min_four   -- for this text's walks alone
set_option linter.unusedVariables false
set_option linter.unusedSimpArgs false

attribute [local go_sem high] eqA35
/-! ### disk_Add: function 18 -/
def disk_Add.f (k : Nat) (l0_0 : List (S35)) (a0_1 : Bool) (a0_2 : Int) (a1 : ByteArray) (a2 : ByteArray) : Option ((List (S35)) × Bool × Int × Int) := (disk_done.f k l0_0 a0_1 a0_2 0 a1 (⟨#[]⟩ : ByteArray) a2 0).bind fun bt210 => (some (bt210.1, bt210.2.1, bt210.2.2.1, bt210.2.2.2))
theorem disk_Add.mono : ∀ a0 a1 a2 a3 a4 k, LeO (disk_Add.f k a0 a1 a2 a3 a4) (disk_Add.f (k + 1) a0 a1 a2 a3 a4) := by
 intro a0 a1 a2 a3 a4 k
 unfold disk_Add.f
 repeat' first
   | (with_reducible exact disk_done.mono _ _ _ _ _ _ _ _ _)
   | (with_reducible exact LeO.refl _)
   | (with_reducible exact LeO.none _)
   | (with_reducible refine LeO.ite ?_ ?_)
   | (with_reducible refine LeO.bind ?_ (fun _ => ?_))
   | exact disk_done.mono _ _ _ _ _ _ _ _ _
   | exact LeO.none _
   | refine LeO.ite ?_ ?_
   | refine LeO.bind ?_ (fun _ => ?_)
set_option maxHeartbeats 80000000 in
set_option maxRecDepth 100000 in
theorem disk_Add.calls (k : Nat) (A0_0 : Option Addr) (c0_0 : Nat) (l0_0 : List (S35)) (a0_1 : Bool) (a0_2 : Int) (a1 : ByteArray) (a2 : ByteArray) (r1 : List (S35)) (r2 : Bool) (r3 : Int) (r4 : Int) (w : World) (hr0_0 : Kd.C k35 w A0_0 l0_0.length l0_0) (hc0_0 : l0_0.length ≤ c0_0) (h : disk_Add.f k l0_0 a0_1 a0_2 a1 a2 = some (r1, r2, r3, r4)) :
  Calls Try.prog 18 #[.agg #[.slice A0_0 l0_0.length c0_0, .bool a0_1, .int .i64 a0_2], .string a1, .string a2] w fun e w' => ∃ v0_ : Value, e = .returned (.tuple #[.agg #[v0_, .bool r2, .int .i64 r3], .int .i64 r4]) ∧ Kd.R k35 35 w' w.heap.size (fun _ => True) v0_ r1 ∧ Below w.heap.size w w' := by
 have hu24 := Try.underlying24
 have hu57 := Try.underlying57
 have HR0_0 := Aside0.mk hr0_0
 have HC0_0 := Aside0.mk hc0_0
 clear hr0_0 hc0_0
 have HB := Aside0.mk (Below.refl w.heap.size w)
 have H : ((disk_done.f k l0_0 a0_1 a0_2 0 a1 (⟨#[]⟩ : ByteArray) a2 0).bind fun bt210 => (some (bt210.1, bt210.2.1, bt210.2.2.1, bt210.2.2.2))) = some (r1, r2, r3, r4) := h
 clear h
 replace H := Option.bind_eq_some_iff.mp H
 obtain ⟨⟨t210, t213, t214, t215⟩, A40, H⟩ := H
 replace H : (some (t210, t213, t214, t215)) = some (r1, r2, r3, r4) := H
 have A4 := Aside0.mk A40
 clear A40
 simp only [Option.some.injEq, Prod.mk.injEq] at H
 obtain ⟨rfl, rfl, rfl, rfl⟩ := H
 go_enter Try.func18, Try.ntmps18
 go_wp2_with (first | ((with_reducible refine gate_dst (N := 3) rfl ?_); refine box_event ?hg (N := 3) ?hd (cs := #[.slice A0_0 l0_0.length c0_0, .bool a0_1, .int .i64 a0_2]) (t := 24) ?hr ?_; (case hd => rfl); (case hg => rfl); (case hr => first | (go_simp; done) | (go_simp; rfl)); intro gb208 hg w5 hbox hb; have BK208 := Aside0.mk (hbox); have GW208 := Aside0.mk (bs_0 hg HB); have GE208 := Aside0.mk (bs_0 hg HB); replace HB := Aside0.mk (below_step (bl_ HB) hb); clear hb hbox hg) | ((with_reducible refine gate_dst (N := 6) rfl ?_); refine box_event ?hg (N := 6) ?hd (cs := #[.slice none 0 0, .bool false, .int .i64 0]) (t := 24) ?hr ?_; (case hd => rfl); (case hg => rfl); (case hr => first | (go_simp; done) | (go_simp; rfl)); intro gb209 hg w6 hbox hb; have BK209 := Aside0.mk (hbox); have GW209 := Aside0.mk (bs_1 hg HB GE208); have GE209 := Aside0.mk (bs_1 hg HB GE208); replace HB := Aside0.mk (below_step (bl_1 HB GE208) hb); have NB208_209 := Aside0.mk (nb_ hg BK208); have NB209_208 := Aside0.mk (nc_ hg BK208); replace BK208 := Aside0.mk (bb_ BK208 hb); clear hb hbox hg; have hnb7 := NB208_209.out; have hnc7 := NB209_208.out; obtain ⟨hcz8_0, hcz8_1, hcz8_2, hfz8_0, hfz8_1, hfz8_2⟩ := c3_ BK208) | ((with_reducible refine gate_callee (f := 35) rfl ?_); refine goesL_ (some 12) rfl rfl Try.func35 (by kernel_rfl) rfl #[.agg #[.slice A0_0 l0_0.length c0_0, .bool a0_1, .int .i64 a0_2], .agg #[.int .u8 0, .string a1, .string (⟨#[]⟩ : ByteArray), .string a2, .int .i64 0]] rfl (ar_) ?_; (with_reducible refine (disk_done.calls k _ _ l0_0 a0_1 a0_2 0 a1 (⟨#[]⟩ : ByteArray) a2 0 t210 t213 t214 t215 _ ?side1 ?side2 A4.out).mono ?_); (case side1 => repeat (first | exact (Kd.C_below HR0_0.out HB.out) | (with_reducible refine Kd.C_alloc ?_ _) | (with_reducible refine Kd.C_drewN ?_ _) | (with_reducible refine Kd.C_drew ?_))); (case side2 => exact HC0_0.out); rintro e w9 ⟨v211, rfl, ho0, hb⟩; refine ⟨_, rfl, ?_⟩; have HO212 := Aside0.mk (Kd.R_lower ho0 (below_size (bl_2 HB GE208 GE209))); replace BK208 := Aside0.mk (bb_ BK208 hb); replace BK209 := Aside0.mk (bb_ BK209 hb); replace HB := Aside0.mk (below_step (bl_2 HB GE208 GE209) hb); (try clear hb); (try clear hb2); (try clear hk); (try clear hi); (try clear ho0); obtain ⟨Ao10, co10, eo10⟩ := Kd.R_slice HO212.out; subst eo10; obtain ⟨hcz11_0, hcz11_1, hcz11_2, hfz11_0, hfz11_1, hfz11_2⟩ := c3_ BK209))
 refine bodyPost_ret (results_ct rfl _ _ gb209 24 #[.slice Ao10 t210.length co10, .bool t213, .int .i64 t214] (0, 0) _ rfl (bp_0 BK209) Try.underlying24 rfl (by kernel_rfl)) rfl ?_
 exact ⟨_, by first | rfl | (simp; done) | (simp [*]; done), by (with_reducible repeat (first | apply Kd.R_alloc | apply Kd.R_drewN | apply Kd.R_drew)); exact Kd.R_mono (Kd.R_far (p := ⟨gb209, 2, none⟩) (Kd.R_far (p := ⟨gb209, 1, none⟩) (Kd.R_far (p := ⟨gb209, 0, none⟩) (Kd.R_types HO212.out BK209.out (by decide)) (fun _ hk => hk.2) (.slice Ao10 t210.length co10)) (fun _ hk => hk.2) (.bool t213)) (fun _ hk => hk.2) (.int .i64 t214)) (fun _ hk => trivial), bl_2 HB GE208 GE209⟩

/-! ### disk_Sync: function 19 -/
def disk_Sync.f (k : Nat) (l0_0 : List (S35)) (a0_1 : Bool) (a0_2 : Int) (a1 : ByteArray) : Option ((List (S35)) × Bool × Int × Int) := (disk_done.f k l0_0 a0_1 a0_2 1 a1 (⟨#[]⟩ : ByteArray) (⟨#[]⟩ : ByteArray) 0).bind fun bt218 => (some (bt218.1, bt218.2.1, bt218.2.2.1, bt218.2.2.2))
theorem disk_Sync.mono : ∀ a0 a1 a2 a3 k, LeO (disk_Sync.f k a0 a1 a2 a3) (disk_Sync.f (k + 1) a0 a1 a2 a3) := by
 intro a0 a1 a2 a3 k
 unfold disk_Sync.f
 repeat' first
   | (with_reducible exact disk_done.mono _ _ _ _ _ _ _ _ _)
   | (with_reducible exact LeO.refl _)
   | (with_reducible exact LeO.none _)
   | (with_reducible refine LeO.ite ?_ ?_)
   | (with_reducible refine LeO.bind ?_ (fun _ => ?_))
   | exact disk_done.mono _ _ _ _ _ _ _ _ _
   | exact LeO.none _
   | refine LeO.ite ?_ ?_
   | refine LeO.bind ?_ (fun _ => ?_)
set_option maxHeartbeats 80000000 in
set_option maxRecDepth 100000 in
theorem disk_Sync.calls (k : Nat) (A0_0 : Option Addr) (c0_0 : Nat) (l0_0 : List (S35)) (a0_1 : Bool) (a0_2 : Int) (a1 : ByteArray) (r1 : List (S35)) (r2 : Bool) (r3 : Int) (r4 : Int) (w : World) (hr0_0 : Kd.C k35 w A0_0 l0_0.length l0_0) (hc0_0 : l0_0.length ≤ c0_0) (h : disk_Sync.f k l0_0 a0_1 a0_2 a1 = some (r1, r2, r3, r4)) :
  Calls Try.prog 19 #[.agg #[.slice A0_0 l0_0.length c0_0, .bool a0_1, .int .i64 a0_2], .string a1] w fun e w' => ∃ v0_ : Value, e = .returned (.tuple #[.agg #[v0_, .bool r2, .int .i64 r3], .int .i64 r4]) ∧ Kd.R k35 35 w' w.heap.size (fun _ => True) v0_ r1 ∧ Below w.heap.size w w' := by
 have hu24 := Try.underlying24
 have hu57 := Try.underlying57
 have HR0_0 := Aside0.mk hr0_0
 have HC0_0 := Aside0.mk hc0_0
 clear hr0_0 hc0_0
 have HB := Aside0.mk (Below.refl w.heap.size w)
 have H : ((disk_done.f k l0_0 a0_1 a0_2 1 a1 (⟨#[]⟩ : ByteArray) (⟨#[]⟩ : ByteArray) 0).bind fun bt218 => (some (bt218.1, bt218.2.1, bt218.2.2.1, bt218.2.2.2))) = some (r1, r2, r3, r4) := h
 clear h
 replace H := Option.bind_eq_some_iff.mp H
 obtain ⟨⟨t218, t221, t222, t223⟩, A30, H⟩ := H
 replace H : (some (t218, t221, t222, t223)) = some (r1, r2, r3, r4) := H
 have A3 := Aside0.mk A30
 clear A30
 simp only [Option.some.injEq, Prod.mk.injEq] at H
 obtain ⟨rfl, rfl, rfl, rfl⟩ := H
 go_enter Try.func19, Try.ntmps19
 go_wp2_with (first | ((with_reducible refine gate_dst (N := 2) rfl ?_); refine box_event ?hg (N := 2) ?hd (cs := #[.slice A0_0 l0_0.length c0_0, .bool a0_1, .int .i64 a0_2]) (t := 24) ?hr ?_; (case hd => rfl); (case hg => rfl); (case hr => first | (go_simp; done) | (go_simp; rfl)); intro gb216 hg w4 hbox hb; have BK216 := Aside0.mk (hbox); have GW216 := Aside0.mk (bs_0 hg HB); have GE216 := Aside0.mk (bs_0 hg HB); replace HB := Aside0.mk (below_step (bl_ HB) hb); clear hb hbox hg) | ((with_reducible refine gate_dst (N := 4) rfl ?_); refine box_event ?hg (N := 4) ?hd (cs := #[.slice none 0 0, .bool false, .int .i64 0]) (t := 24) ?hr ?_; (case hd => rfl); (case hg => rfl); (case hr => first | (go_simp; done) | (go_simp; rfl)); intro gb217 hg w5 hbox hb; have BK217 := Aside0.mk (hbox); have GW217 := Aside0.mk (bs_1 hg HB GE216); have GE217 := Aside0.mk (bs_1 hg HB GE216); replace HB := Aside0.mk (below_step (bl_1 HB GE216) hb); have NB216_217 := Aside0.mk (nb_ hg BK216); have NB217_216 := Aside0.mk (nc_ hg BK216); replace BK216 := Aside0.mk (bb_ BK216 hb); clear hb hbox hg; have hnb6 := NB216_217.out; have hnc6 := NB217_216.out; obtain ⟨hcz7_0, hcz7_1, hcz7_2, hfz7_0, hfz7_1, hfz7_2⟩ := c3_ BK216) | ((with_reducible refine gate_callee (f := 35) rfl ?_); refine goesL_ (some 9) rfl rfl Try.func35 (by kernel_rfl) rfl #[.agg #[.slice A0_0 l0_0.length c0_0, .bool a0_1, .int .i64 a0_2], .agg #[.int .u8 1, .string a1, .string (⟨#[]⟩ : ByteArray), .string (⟨#[]⟩ : ByteArray), .int .i64 0]] rfl (ar_) ?_; (with_reducible refine (disk_done.calls k _ _ l0_0 a0_1 a0_2 1 a1 (⟨#[]⟩ : ByteArray) (⟨#[]⟩ : ByteArray) 0 t218 t221 t222 t223 _ ?side1 ?side2 A3.out).mono ?_); (case side1 => repeat (first | exact (Kd.C_below HR0_0.out HB.out) | (with_reducible refine Kd.C_alloc ?_ _) | (with_reducible refine Kd.C_drewN ?_ _) | (with_reducible refine Kd.C_drew ?_))); (case side2 => exact HC0_0.out); rintro e w8 ⟨v219, rfl, ho0, hb⟩; refine ⟨_, rfl, ?_⟩; have HO220 := Aside0.mk (Kd.R_lower ho0 (below_size (bl_2 HB GE216 GE217))); replace BK216 := Aside0.mk (bb_ BK216 hb); replace BK217 := Aside0.mk (bb_ BK217 hb); replace HB := Aside0.mk (below_step (bl_2 HB GE216 GE217) hb); (try clear hb); (try clear hb2); (try clear hk); (try clear hi); (try clear ho0); obtain ⟨Ao9, co9, eo9⟩ := Kd.R_slice HO220.out; subst eo9; obtain ⟨hcz10_0, hcz10_1, hcz10_2, hfz10_0, hfz10_1, hfz10_2⟩ := c3_ BK217))
 refine bodyPost_ret (results_ct rfl _ _ gb217 24 #[.slice Ao9 t218.length co9, .bool t221, .int .i64 t222] (0, 0) _ rfl (bp_0 BK217) Try.underlying24 rfl (by kernel_rfl)) rfl ?_
 exact ⟨_, by first | rfl | (simp; done) | (simp [*]; done), by (with_reducible repeat (first | apply Kd.R_alloc | apply Kd.R_drewN | apply Kd.R_drew)); exact Kd.R_mono (Kd.R_far (p := ⟨gb217, 2, none⟩) (Kd.R_far (p := ⟨gb217, 1, none⟩) (Kd.R_far (p := ⟨gb217, 0, none⟩) (Kd.R_types HO220.out BK217.out (by decide)) (fun _ hk => hk.2) (.slice Ao9 t218.length co9)) (fun _ hk => hk.2) (.bool t221)) (fun _ hk => hk.2) (.int .i64 t222)) (fun _ hk => trivial), bl_2 HB GE216 GE217⟩

/-! ### disk_Swap: function 20 -/
def disk_Swap.f (k : Nat) (l0_0 : List (S35)) (a0_1 : Bool) (a0_2 : Int) (a1 : ByteArray) (a2 : ByteArray) : Option ((List (S35)) × Bool × Int × Int) := (disk_done.f k l0_0 a0_1 a0_2 3 a1 a2 (⟨#[]⟩ : ByteArray) 0).bind fun bt226 => (some (bt226.1, bt226.2.1, bt226.2.2.1, bt226.2.2.2))
theorem disk_Swap.mono : ∀ a0 a1 a2 a3 a4 k, LeO (disk_Swap.f k a0 a1 a2 a3 a4) (disk_Swap.f (k + 1) a0 a1 a2 a3 a4) := by
 intro a0 a1 a2 a3 a4 k
 unfold disk_Swap.f
 repeat' first
   | (with_reducible exact disk_done.mono _ _ _ _ _ _ _ _ _)
   | (with_reducible exact LeO.refl _)
   | (with_reducible exact LeO.none _)
   | (with_reducible refine LeO.ite ?_ ?_)
   | (with_reducible refine LeO.bind ?_ (fun _ => ?_))
   | exact disk_done.mono _ _ _ _ _ _ _ _ _
   | exact LeO.none _
   | refine LeO.ite ?_ ?_
   | refine LeO.bind ?_ (fun _ => ?_)
set_option maxHeartbeats 80000000 in
set_option maxRecDepth 100000 in
theorem disk_Swap.calls (k : Nat) (A0_0 : Option Addr) (c0_0 : Nat) (l0_0 : List (S35)) (a0_1 : Bool) (a0_2 : Int) (a1 : ByteArray) (a2 : ByteArray) (r1 : List (S35)) (r2 : Bool) (r3 : Int) (r4 : Int) (w : World) (hr0_0 : Kd.C k35 w A0_0 l0_0.length l0_0) (hc0_0 : l0_0.length ≤ c0_0) (h : disk_Swap.f k l0_0 a0_1 a0_2 a1 a2 = some (r1, r2, r3, r4)) :
  Calls Try.prog 20 #[.agg #[.slice A0_0 l0_0.length c0_0, .bool a0_1, .int .i64 a0_2], .string a1, .string a2] w fun e w' => ∃ v0_ : Value, e = .returned (.tuple #[.agg #[v0_, .bool r2, .int .i64 r3], .int .i64 r4]) ∧ Kd.R k35 35 w' w.heap.size (fun _ => True) v0_ r1 ∧ Below w.heap.size w w' := by
 have hu24 := Try.underlying24
 have hu57 := Try.underlying57
 have HR0_0 := Aside0.mk hr0_0
 have HC0_0 := Aside0.mk hc0_0
 clear hr0_0 hc0_0
 have HB := Aside0.mk (Below.refl w.heap.size w)
 have H : ((disk_done.f k l0_0 a0_1 a0_2 3 a1 a2 (⟨#[]⟩ : ByteArray) 0).bind fun bt226 => (some (bt226.1, bt226.2.1, bt226.2.2.1, bt226.2.2.2))) = some (r1, r2, r3, r4) := h
 clear h
 replace H := Option.bind_eq_some_iff.mp H
 obtain ⟨⟨t226, t229, t230, t231⟩, A40, H⟩ := H
 replace H : (some (t226, t229, t230, t231)) = some (r1, r2, r3, r4) := H
 have A4 := Aside0.mk A40
 clear A40
 simp only [Option.some.injEq, Prod.mk.injEq] at H
 obtain ⟨rfl, rfl, rfl, rfl⟩ := H
 go_enter Try.func20, Try.ntmps20
 go_wp2_with (first | ((with_reducible refine gate_dst (N := 3) rfl ?_); refine box_event ?hg (N := 3) ?hd (cs := #[.slice A0_0 l0_0.length c0_0, .bool a0_1, .int .i64 a0_2]) (t := 24) ?hr ?_; (case hd => rfl); (case hg => rfl); (case hr => first | (go_simp; done) | (go_simp; rfl)); intro gb224 hg w5 hbox hb; have BK224 := Aside0.mk (hbox); have GW224 := Aside0.mk (bs_0 hg HB); have GE224 := Aside0.mk (bs_0 hg HB); replace HB := Aside0.mk (below_step (bl_ HB) hb); clear hb hbox hg) | ((with_reducible refine gate_dst (N := 6) rfl ?_); refine box_event ?hg (N := 6) ?hd (cs := #[.slice none 0 0, .bool false, .int .i64 0]) (t := 24) ?hr ?_; (case hd => rfl); (case hg => rfl); (case hr => first | (go_simp; done) | (go_simp; rfl)); intro gb225 hg w6 hbox hb; have BK225 := Aside0.mk (hbox); have GW225 := Aside0.mk (bs_1 hg HB GE224); have GE225 := Aside0.mk (bs_1 hg HB GE224); replace HB := Aside0.mk (below_step (bl_1 HB GE224) hb); have NB224_225 := Aside0.mk (nb_ hg BK224); have NB225_224 := Aside0.mk (nc_ hg BK224); replace BK224 := Aside0.mk (bb_ BK224 hb); clear hb hbox hg; have hnb7 := NB224_225.out; have hnc7 := NB225_224.out; obtain ⟨hcz8_0, hcz8_1, hcz8_2, hfz8_0, hfz8_1, hfz8_2⟩ := c3_ BK224) | ((with_reducible refine gate_callee (f := 35) rfl ?_); refine goesL_ (some 12) rfl rfl Try.func35 (by kernel_rfl) rfl #[.agg #[.slice A0_0 l0_0.length c0_0, .bool a0_1, .int .i64 a0_2], .agg #[.int .u8 3, .string a1, .string a2, .string (⟨#[]⟩ : ByteArray), .int .i64 0]] rfl (ar_) ?_; (with_reducible refine (disk_done.calls k _ _ l0_0 a0_1 a0_2 3 a1 a2 (⟨#[]⟩ : ByteArray) 0 t226 t229 t230 t231 _ ?side1 ?side2 A4.out).mono ?_); (case side1 => repeat (first | exact (Kd.C_below HR0_0.out HB.out) | (with_reducible refine Kd.C_alloc ?_ _) | (with_reducible refine Kd.C_drewN ?_ _) | (with_reducible refine Kd.C_drew ?_))); (case side2 => exact HC0_0.out); rintro e w9 ⟨v227, rfl, ho0, hb⟩; refine ⟨_, rfl, ?_⟩; have HO228 := Aside0.mk (Kd.R_lower ho0 (below_size (bl_2 HB GE224 GE225))); replace BK224 := Aside0.mk (bb_ BK224 hb); replace BK225 := Aside0.mk (bb_ BK225 hb); replace HB := Aside0.mk (below_step (bl_2 HB GE224 GE225) hb); (try clear hb); (try clear hb2); (try clear hk); (try clear hi); (try clear ho0); obtain ⟨Ao10, co10, eo10⟩ := Kd.R_slice HO228.out; subst eo10; obtain ⟨hcz11_0, hcz11_1, hcz11_2, hfz11_0, hfz11_1, hfz11_2⟩ := c3_ BK225))
 refine bodyPost_ret (results_ct rfl _ _ gb225 24 #[.slice Ao10 t226.length co10, .bool t229, .int .i64 t230] (0, 0) _ rfl (bp_0 BK225) Try.underlying24 rfl (by kernel_rfl)) rfl ?_
 exact ⟨_, by first | rfl | (simp; done) | (simp [*]; done), by (with_reducible repeat (first | apply Kd.R_alloc | apply Kd.R_drewN | apply Kd.R_drew)); exact Kd.R_mono (Kd.R_far (p := ⟨gb225, 2, none⟩) (Kd.R_far (p := ⟨gb225, 1, none⟩) (Kd.R_far (p := ⟨gb225, 0, none⟩) (Kd.R_types HO228.out BK225.out (by decide)) (fun _ hk => hk.2) (.slice Ao10 t226.length co10)) (fun _ hk => hk.2) (.bool t229)) (fun _ hk => hk.2) (.int .i64 t230)) (fun _ hk => trivial), bl_2 HB GE224 GE225⟩

/-! ### gafferlaw02_lives: function 14 -/
def gafferlaw02_lives.f (k : Nat)  : Option (Bool) := (disk_Add.f k ([] : List (S35)) false (-1) (⟨#[97]⟩ : ByteArray) (⟨#[120, 121]⟩ : ByteArray)).bind fun bt232 => ((disk_Sync.f k bt232.1 bt232.2.1 bt232.2.2.1 (⟨#[97]⟩ : ByteArray)).bind fun bt239 => ((disk_Add.f k bt239.1 bt239.2.1 bt239.2.2.1 (⟨#[97]⟩ : ByteArray) (⟨#[122, 119]⟩ : ByteArray)).bind fun bt245 => ((disk_Swap.f k bt245.1 bt245.2.1 bt245.2.2.1 (⟨#[97]⟩ : ByteArray) (⟨#[98]⟩ : ByteArray)).bind fun bt251 => ((disk_Crash.f k bt245.1 bt245.2.1 bt245.2.2.1 (([1] : List Int))).bind fun bt261 => ((disk_Read.f k bt261.1 bt261.2.1 bt261.2.2.1 (⟨#[97]⟩ : ByteArray)).bind fun bt267 => (if bt232.2.2.2 = 0 then (if bt239.2.2.2 = 0 then (if bt245.2.2.2 = 0 then (if bt251.2.2.2 = 9 then (if bt261.2.2.2 = 0 then (if bt267.2 = 0 then (some (bt267.1.toList == ([120, 121, 122] : List UInt8))) else (some false)) else (some false)) else (some false)) else (some false)) else (some false)) else (some false)))))))
theorem gafferlaw02_lives.mono : ∀ k, LeO (gafferlaw02_lives.f k ) (gafferlaw02_lives.f (k + 1) ) := by
 intro  k
 unfold gafferlaw02_lives.f
 repeat' first
   | (with_reducible exact disk_Add.mono _ _ _ _ _ _)
   | (with_reducible exact disk_Crash.mono _ _ _ _ _)
   | (with_reducible exact disk_Read.mono _ _ _ _ _)
   | (with_reducible exact disk_Swap.mono _ _ _ _ _ _)
   | (with_reducible exact disk_Sync.mono _ _ _ _ _)
   | (with_reducible exact LeO.refl _)
   | (with_reducible exact LeO.none _)
   | (with_reducible refine LeO.ite ?_ ?_)
   | (with_reducible refine LeO.bind ?_ (fun _ => ?_))
   | exact disk_Add.mono _ _ _ _ _ _
   | exact disk_Crash.mono _ _ _ _ _
   | exact disk_Read.mono _ _ _ _ _
   | exact disk_Swap.mono _ _ _ _ _ _
   | exact disk_Sync.mono _ _ _ _ _
   | exact LeO.none _
   | refine LeO.ite ?_ ?_
   | refine LeO.bind ?_ (fun _ => ?_)
theorem gafferlaw02_lives.only (k : Nat) (r : Bool) (h : gafferlaw02_lives.f k = some r) : r = true := by
 have h1 : gafferlaw02_lives.f (k + 40) = some r := at_rounds (fun k => gafferlaw02_lives.mono k) (Nat.le_add_right _ _) h
 have h2 : gafferlaw02_lives.f (k + 40) = some true := at_rounds (g := fun k => gafferlaw02_lives.f k) (fun k => gafferlaw02_lives.mono k) (Nat.le_add_left 40 k) (show gafferlaw02_lives.f 40 = some true by decide +kernel)
 rw [h1] at h2
 injection h2
set_option maxHeartbeats 80000000 in
set_option maxRecDepth 100000 in
theorem gafferlaw02_lives.calls (k : Nat)  (r : Bool) (w : World) (h : gafferlaw02_lives.f k  = some r) :
  Calls Try.prog 14 #[] w fun e w' => e = .returned (.bool r) ∧ Below w.heap.size w w' := by
 have hr : r = true := gafferlaw02_lives.only k r h
 have hu24 := Try.underlying24
 have HB := Aside0.mk (Below.refl w.heap.size w)
 have H : ((disk_Add.f k ([] : List (S35)) false (-1) (⟨#[97]⟩ : ByteArray) (⟨#[120, 121]⟩ : ByteArray)).bind fun bt232 => ((disk_Sync.f k bt232.1 bt232.2.1 bt232.2.2.1 (⟨#[97]⟩ : ByteArray)).bind fun bt239 => ((disk_Add.f k bt239.1 bt239.2.1 bt239.2.2.1 (⟨#[97]⟩ : ByteArray) (⟨#[122, 119]⟩ : ByteArray)).bind fun bt245 => ((disk_Swap.f k bt245.1 bt245.2.1 bt245.2.2.1 (⟨#[97]⟩ : ByteArray) (⟨#[98]⟩ : ByteArray)).bind fun bt251 => ((disk_Crash.f k bt245.1 bt245.2.1 bt245.2.2.1 (([1] : List Int))).bind fun bt261 => ((disk_Read.f k bt261.1 bt261.2.1 bt261.2.2.1 (⟨#[97]⟩ : ByteArray)).bind fun bt267 => (if bt232.2.2.2 = 0 then (if bt239.2.2.2 = 0 then (if bt245.2.2.2 = 0 then (if bt251.2.2.2 = 9 then (if bt261.2.2.2 = 0 then (if bt267.2 = 0 then (some (bt267.1.toList == ([120, 121, 122] : List UInt8))) else (some false)) else (some false)) else (some false)) else (some false)) else (some false)) else (some false)))))))) = some r := h
 clear h
 replace H := Option.bind_eq_some_iff.mp H
 obtain ⟨⟨t232, t235, t236, t237⟩, A10, H⟩ := H
 replace H : ((disk_Sync.f k t232 t235 t236 (⟨#[97]⟩ : ByteArray)).bind fun bt239 => ((disk_Add.f k bt239.1 bt239.2.1 bt239.2.2.1 (⟨#[97]⟩ : ByteArray) (⟨#[122, 119]⟩ : ByteArray)).bind fun bt245 => ((disk_Swap.f k bt245.1 bt245.2.1 bt245.2.2.1 (⟨#[97]⟩ : ByteArray) (⟨#[98]⟩ : ByteArray)).bind fun bt251 => ((disk_Crash.f k bt245.1 bt245.2.1 bt245.2.2.1 (([1] : List Int))).bind fun bt261 => ((disk_Read.f k bt261.1 bt261.2.1 bt261.2.2.1 (⟨#[97]⟩ : ByteArray)).bind fun bt267 => (if t237 = 0 then (if bt239.2.2.2 = 0 then (if bt245.2.2.2 = 0 then (if bt251.2.2.2 = 9 then (if bt261.2.2.2 = 0 then (if bt267.2 = 0 then (some (bt267.1.toList == ([120, 121, 122] : List UInt8))) else (some false)) else (some false)) else (some false)) else (some false)) else (some false)) else (some false))))))) = some r := H
 have A1 := Aside0.mk A10
 clear A10
 replace H := Option.bind_eq_some_iff.mp H
 obtain ⟨⟨t239, t242, t243, t244⟩, A20, H⟩ := H
 replace H : ((disk_Add.f k t239 t242 t243 (⟨#[97]⟩ : ByteArray) (⟨#[122, 119]⟩ : ByteArray)).bind fun bt245 => ((disk_Swap.f k bt245.1 bt245.2.1 bt245.2.2.1 (⟨#[97]⟩ : ByteArray) (⟨#[98]⟩ : ByteArray)).bind fun bt251 => ((disk_Crash.f k bt245.1 bt245.2.1 bt245.2.2.1 (([1] : List Int))).bind fun bt261 => ((disk_Read.f k bt261.1 bt261.2.1 bt261.2.2.1 (⟨#[97]⟩ : ByteArray)).bind fun bt267 => (if t237 = 0 then (if t244 = 0 then (if bt245.2.2.2 = 0 then (if bt251.2.2.2 = 9 then (if bt261.2.2.2 = 0 then (if bt267.2 = 0 then (some (bt267.1.toList == ([120, 121, 122] : List UInt8))) else (some false)) else (some false)) else (some false)) else (some false)) else (some false)) else (some false)))))) = some r := H
 have A2 := Aside0.mk A20
 clear A20
 replace H := Option.bind_eq_some_iff.mp H
 obtain ⟨⟨t245, t248, t249, t250⟩, A30, H⟩ := H
 replace H : ((disk_Swap.f k t245 t248 t249 (⟨#[97]⟩ : ByteArray) (⟨#[98]⟩ : ByteArray)).bind fun bt251 => ((disk_Crash.f k t245 t248 t249 (([1] : List Int))).bind fun bt261 => ((disk_Read.f k bt261.1 bt261.2.1 bt261.2.2.1 (⟨#[97]⟩ : ByteArray)).bind fun bt267 => (if t237 = 0 then (if t244 = 0 then (if t250 = 0 then (if bt251.2.2.2 = 9 then (if bt261.2.2.2 = 0 then (if bt267.2 = 0 then (some (bt267.1.toList == ([120, 121, 122] : List UInt8))) else (some false)) else (some false)) else (some false)) else (some false)) else (some false)) else (some false))))) = some r := H
 have A3 := Aside0.mk A30
 clear A30
 replace H := Option.bind_eq_some_iff.mp H
 obtain ⟨⟨t251, t254, t255, t256⟩, A40, H⟩ := H
 replace H : ((disk_Crash.f k t245 t248 t249 (([1] : List Int))).bind fun bt261 => ((disk_Read.f k bt261.1 bt261.2.1 bt261.2.2.1 (⟨#[97]⟩ : ByteArray)).bind fun bt267 => (if t237 = 0 then (if t244 = 0 then (if t250 = 0 then (if t256 = 9 then (if bt261.2.2.2 = 0 then (if bt267.2 = 0 then (some (bt267.1.toList == ([120, 121, 122] : List UInt8))) else (some false)) else (some false)) else (some false)) else (some false)) else (some false)) else (some false)))) = some r := H
 have A4 := Aside0.mk A40
 clear A40
 obtain ⟨y258, hy258⟩ : ∃ y_ : List Int, y_ = (([1] : List Int)) := ⟨_, rfl⟩
 replace H : ((disk_Crash.f k t245 t248 t249 y258).bind fun bt261 => ((disk_Read.f k bt261.1 bt261.2.1 bt261.2.2.1 (⟨#[97]⟩ : ByteArray)).bind fun bt267 => (if t237 = 0 then (if t244 = 0 then (if t250 = 0 then (if t256 = 9 then (if bt261.2.2.2 = 0 then (if bt267.2 = 0 then (some (bt267.1.toList == ([120, 121, 122] : List UInt8))) else (some false)) else (some false)) else (some false)) else (some false)) else (some false)) else (some false)))) = some r := by first | (rw [hy258]; with_reducible exact H) | (have H2_ := (Option.bind_some _ _).symm.trans H; rw [hy258]; with_reducible exact H2_) | (have H2_ := (Option.bind_some _ _).symm.trans H; with_reducible exact H2_) | with_reducible exact H | (rw [hy258]; exact H) | exact H
 have Ny258 := Aside0.mk hy258
 clear hy258
 replace H := Option.bind_eq_some_iff.mp H
 obtain ⟨⟨t261, t264, t265, t266⟩, A50, H⟩ := H
 replace H : ((disk_Read.f k t261 t264 t265 (⟨#[97]⟩ : ByteArray)).bind fun bt267 => (if t237 = 0 then (if t244 = 0 then (if t250 = 0 then (if t256 = 9 then (if t266 = 0 then (if bt267.2 = 0 then (some (bt267.1.toList == ([120, 121, 122] : List UInt8))) else (some false)) else (some false)) else (some false)) else (some false)) else (some false)) else (some false))) = some r := H
 have A5 := Aside0.mk A50
 clear A50
 replace H := Option.bind_eq_some_iff.mp H
 obtain ⟨⟨t267, t268⟩, A60, H⟩ := H
 replace H : (if t237 = 0 then (if t244 = 0 then (if t250 = 0 then (if t256 = 9 then (if t266 = 0 then (if t268 = 0 then (some (t267.toList == ([120, 121, 122] : List UInt8))) else (some false)) else (some false)) else (some false)) else (some false)) else (some false)) else (some false)) = some r := H
 have A6 := Aside0.mk A60
 clear A60
 by_cases c7 : t237 = 0
 ·rw [if_pos c7] at H
  have c7b0 : (t237 == 0) = true := beq_iff_eq.mpr c7
  have c7b1 : (t237 != 0) = false := bne_eq_false_iff_eq.mpr c7
  clear c7
  by_cases c8 : t244 = 0
  ·rw [if_pos c8] at H
   have c8b0 : (t244 == 0) = true := beq_iff_eq.mpr c8
   have c8b1 : (t244 != 0) = false := bne_eq_false_iff_eq.mpr c8
   clear c8
   by_cases c9 : t250 = 0
   ·rw [if_pos c9] at H
    have c9b0 : (t250 == 0) = true := beq_iff_eq.mpr c9
    have c9b1 : (t250 != 0) = false := bne_eq_false_iff_eq.mpr c9
    clear c9
    by_cases c10 : t256 = 9
    ·rw [if_pos c10] at H
     have c10b0 : (t256 == 9) = true := beq_iff_eq.mpr c10
     have c10b1 : (t256 != 9) = false := bne_eq_false_iff_eq.mpr c10
     clear c10
     by_cases c11 : t266 = 0
     ·rw [if_pos c11] at H
      have c11b0 : (t266 == 0) = true := beq_iff_eq.mpr c11
      have c11b1 : (t266 != 0) = false := bne_eq_false_iff_eq.mpr c11
      clear c11
      by_cases c12 : t268 = 0
      ·rw [if_pos c12] at H
       have c12b0 : (t268 == 0) = true := beq_iff_eq.mpr c12
       have c12b1 : (t268 != 0) = false := bne_eq_false_iff_eq.mpr c12
       clear c12
       obtain rfl := Option.some.inj H
       go_enter Try.func14, Try.ntmps14
       go_wp2_with (first | ((with_reducible refine gate_callee (f := 18) rfl ?_); refine goesL_ (some 12) rfl rfl Try.func18 (by kernel_rfl) rfl #[.agg #[.slice none 0 0, .bool false, .int .i64 (-1)], .string (⟨#[97]⟩ : ByteArray), .string (⟨#[120, 121]⟩ : ByteArray)] rfl (ar_) ?_; (refine (disk_Add.calls k _ _ ([] : List (S35)) false (-1) (⟨#[97]⟩ : ByteArray) (⟨#[120, 121]⟩ : ByteArray) t232 t235 t236 t237 _ ?side1 ?side2 A1.out).mono ?_); (case side1 => exact Kd.C_nil _ _); (case side2 => exact Nat.le_refl _); rintro e w13 ⟨v233, rfl, ho0, hb⟩; (try clear A1); refine ⟨_, rfl, ?_⟩; have HO234 := Aside0.mk (Kd.R_lower ho0 (below_size (bl_ HB))); replace HB := Aside0.mk (below_step (bl_ HB) hb); (try clear hb); (try clear hb2); (try clear hk); (try clear hi); (try clear ho0)) | ((with_reducible refine gate_dst (N := 1) rfl ?_); refine box_event ?hg (N := 1) ?hd (cs := #[.slice none 0 0, .bool false, .int .i64 0]) (t := 24) ?hr ?_; (case hd => rfl); (case hg => rfl); (case hr => first | (go_simp; done) | (go_simp; rfl)); intro gb238 hg w14 hbox hb; replace HO234 := Aside0.mk (Kd.R_below (by (with_reducible repeat (first | apply Kd.R_alloc | apply Kd.R_drewN | apply Kd.R_drew)); exact HO234.out) hb); have BK238 := Aside0.mk (hbox); have GW238 := Aside0.mk (bs_0 hg HB); have GE238 := Aside0.mk (bs_0 hg HB); replace HB := Aside0.mk (below_step (bl_ HB) hb); clear hb hbox hg; obtain ⟨Ao15, co15, eo15⟩ := Kd.R_slice HO234.out; subst eo15; obtain ⟨hcz16_0, hcz16_1, hcz16_2, hfz16_0, hfz16_1, hfz16_2⟩ := c3_ BK238) | ((with_reducible refine gate_callee (f := 19) rfl ?_); refine goesL_ (some 17) rfl rfl Try.func19 (by kernel_rfl) rfl #[.agg #[.slice Ao15 t232.length co15, .bool t235, .int .i64 t236], .string (⟨#[97]⟩ : ByteArray)] rfl (ar_) ?_; (with_reducible refine (disk_Sync.calls k _ _ t232 t235 t236 (⟨#[97]⟩ : ByteArray) t239 t242 t243 t244 _ ?side1 ?side2 A2.out).mono ?_); (case side1 => refine (Kd.R_reads' (e := 35) (base := w.heap.size) (ok := fun k_ => True) (n := t232.length) (c := co15) ?_).2.2; exact (by (with_reducible repeat (first | apply Kd.R_alloc | apply Kd.R_drewN | apply Kd.R_drew)); exact (Kd.R_mono (Kd.R_far (p := ⟨gb238, 2, none⟩) (Kd.R_far (p := ⟨gb238, 1, none⟩) (Kd.R_far (p := ⟨gb238, 0, none⟩) (Kd.R_types HO234.out BK238.out (by decide)) (fun _ hk => hk.2) (.slice Ao15 t232.length co15)) (fun _ hk => hk.2) (.bool t235)) (fun _ hk => hk.2) (.int .i64 t236)) (fun _ h_ => h_.1)))); (case side2 => exact (Kd.R_reads' HO234.out).2.1); rintro e w17 ⟨v240, rfl, ho0, hb⟩; refine ⟨_, rfl, ?_⟩; have HO241 := Aside0.mk (Kd.R_lower (Kd.R_new' ho0 (Kd.R_lt (by (with_reducible repeat (first | apply Kd.R_alloc | apply Kd.R_drewN | apply Kd.R_drew)); exact (Kd.R_mono (Kd.R_far (p := ⟨gb238, 2, none⟩) (Kd.R_far (p := ⟨gb238, 1, none⟩) (Kd.R_far (p := ⟨gb238, 0, none⟩) (Kd.R_types HO234.out BK238.out (by decide)) (fun _ hk => hk.2) (.slice Ao15 t232.length co15)) (fun _ hk => hk.2) (.bool t235)) (fun _ hk => hk.2) (.int .i64 t236)) (fun _ h_ => h_.1))))) (below_size (bl_1 HB GE238))); replace HO234 := Aside0.mk (Kd.R_elder' (by (with_reducible repeat (first | apply Kd.R_alloc | apply Kd.R_drewN | apply Kd.R_drew)); exact (Kd.R_mono (Kd.R_far (p := ⟨gb238, 2, none⟩) (Kd.R_far (p := ⟨gb238, 1, none⟩) (Kd.R_far (p := ⟨gb238, 0, none⟩) (Kd.R_types HO234.out BK238.out (by decide)) (fun _ hk => hk.2) (.slice Ao15 t232.length co15)) (fun _ hk => hk.2) (.bool t235)) (fun _ hk => hk.2) (.int .i64 t236)) (fun _ h_ => h_.1))) (Kd.R_base ho0) hb); replace BK238 := Aside0.mk (blk_below (g := gb238) (o := .cells #[.slice Ao15 t232.length co15, .bool t235, .int .i64 t236] 24 (0, 0)) (bp_0 BK238) hb); replace HB := Aside0.mk (below_step (bl_1 HB GE238) hb); (try clear hb); (try clear hb2); (try clear hk); (try clear hi); (try clear ho0); obtain ⟨Ao18, co18, eo18⟩ := Kd.R_slice HO241.out; subst eo18; obtain ⟨hcz19_0, hcz19_1, hcz19_2, hfz19_0, hfz19_1, hfz19_2⟩ := c3_ BK238) | ((with_reducible refine gate_callee (f := 18) rfl ?_); refine goesL_ (some 22) rfl rfl Try.func18 (by kernel_rfl) rfl #[.agg #[.slice Ao18 t239.length co18, .bool t242, .int .i64 t243], .string (⟨#[97]⟩ : ByteArray), .string (⟨#[122, 119]⟩ : ByteArray)] rfl (ar_) ?_; (with_reducible refine (disk_Add.calls k _ _ t239 t242 t243 (⟨#[97]⟩ : ByteArray) (⟨#[122, 119]⟩ : ByteArray) t245 t248 t249 t250 _ ?side1 ?side2 A3.out).mono ?_); (case side1 => refine (Kd.R_reads' (e := 35) (base := w.heap.size) (ok := fun k_ => (True ∧ some k_ ≠ (.slice Ao15 t232.length co15 : Value).ownBlock)) (n := t239.length) (c := co18) ?_).2.2; exact (by (with_reducible repeat (first | apply Kd.R_alloc | apply Kd.R_drewN | apply Kd.R_drew)); exact (Kd.R_mono (Kd.R_far (p := ⟨gb238, 2, none⟩) (Kd.R_far (p := ⟨gb238, 1, none⟩) (Kd.R_far (p := ⟨gb238, 0, none⟩) (Kd.R_types HO241.out BK238.out (by decide)) (fun _ hk => hk.2) (.slice Ao18 t239.length co18)) (fun _ hk => hk.2) (.bool t242)) (fun _ hk => hk.2) (.int .i64 t243)) (fun _ h_ => h_.1)))); (case side2 => exact (Kd.R_reads' HO241.out).2.1); rintro e w20 ⟨v246, rfl, ho0, hb⟩; refine ⟨_, rfl, ?_⟩; have HO247 := Aside0.mk (Kd.R_lower (Kd.R_new' (Kd.R_new' ho0 (Kd.R_lt (by (with_reducible repeat (first | apply Kd.R_alloc | apply Kd.R_drewN | apply Kd.R_drew)); exact (Kd.R_mono (Kd.R_far (p := ⟨gb238, 2, none⟩) (Kd.R_far (p := ⟨gb238, 1, none⟩) (Kd.R_far (p := ⟨gb238, 0, none⟩) (Kd.R_types HO234.out BK238.out (by decide)) (fun _ hk => hk.2) (.slice Ao18 t239.length co18)) (fun _ hk => hk.2) (.bool t242)) (fun _ hk => hk.2) (.int .i64 t243)) (fun _ h_ => h_.1))))) (Kd.R_lt (by (with_reducible repeat (first | apply Kd.R_alloc | apply Kd.R_drewN | apply Kd.R_drew)); exact (Kd.R_mono (Kd.R_far (p := ⟨gb238, 2, none⟩) (Kd.R_far (p := ⟨gb238, 1, none⟩) (Kd.R_far (p := ⟨gb238, 0, none⟩) (Kd.R_types HO241.out BK238.out (by decide)) (fun _ hk => hk.2) (.slice Ao18 t239.length co18)) (fun _ hk => hk.2) (.bool t242)) (fun _ hk => hk.2) (.int .i64 t243)) (fun _ h_ => h_.1))))) (below_size (bl_1 HB GE238))); replace HO234 := Aside0.mk (Kd.R_elder' (by (with_reducible repeat (first | apply Kd.R_alloc | apply Kd.R_drewN | apply Kd.R_drew)); exact (Kd.R_mono (Kd.R_far (p := ⟨gb238, 2, none⟩) (Kd.R_far (p := ⟨gb238, 1, none⟩) (Kd.R_far (p := ⟨gb238, 0, none⟩) (Kd.R_types HO234.out BK238.out (by decide)) (fun _ hk => hk.2) (.slice Ao18 t239.length co18)) (fun _ hk => hk.2) (.bool t242)) (fun _ hk => hk.2) (.int .i64 t243)) (fun _ h_ => h_.1))) (Kd.R_base ho0) hb); replace HO241 := Aside0.mk (Kd.R_elder' (by (with_reducible repeat (first | apply Kd.R_alloc | apply Kd.R_drewN | apply Kd.R_drew)); exact (Kd.R_mono (Kd.R_far (p := ⟨gb238, 2, none⟩) (Kd.R_far (p := ⟨gb238, 1, none⟩) (Kd.R_far (p := ⟨gb238, 0, none⟩) (Kd.R_types HO241.out BK238.out (by decide)) (fun _ hk => hk.2) (.slice Ao18 t239.length co18)) (fun _ hk => hk.2) (.bool t242)) (fun _ hk => hk.2) (.int .i64 t243)) (fun _ h_ => h_.1))) (Kd.R_base ho0) hb); replace BK238 := Aside0.mk (blk_below (g := gb238) (o := .cells #[.slice Ao18 t239.length co18, .bool t242, .int .i64 t243] 24 (0, 0)) (bp_0 BK238) hb); replace HB := Aside0.mk (below_step (bl_1 HB GE238) hb); (try clear hb); (try clear hb2); (try clear hk); (try clear hi); (try clear ho0); obtain ⟨Ao21, co21, eo21⟩ := Kd.R_slice HO247.out; subst eo21; obtain ⟨hcz22_0, hcz22_1, hcz22_2, hfz22_0, hfz22_1, hfz22_2⟩ := c3_ BK238) | ((with_reducible refine gate_callee (f := 20) rfl ?_); refine goesL_ (some 27) rfl rfl Try.func20 (by kernel_rfl) rfl #[.agg #[.slice Ao21 t245.length co21, .bool t248, .int .i64 t249], .string (⟨#[97]⟩ : ByteArray), .string (⟨#[98]⟩ : ByteArray)] rfl (ar_) ?_; (with_reducible refine (disk_Swap.calls k _ _ t245 t248 t249 (⟨#[97]⟩ : ByteArray) (⟨#[98]⟩ : ByteArray) t251 t254 t255 t256 _ ?side1 ?side2 A4.out).mono ?_); (case side1 => refine (Kd.R_reads' (e := 35) (base := w.heap.size) (ok := fun k_ => ((True ∧ some k_ ≠ (.slice Ao15 t232.length co15 : Value).ownBlock) ∧ some k_ ≠ (.slice Ao18 t239.length co18 : Value).ownBlock)) (n := t245.length) (c := co21) ?_).2.2; exact (by (with_reducible repeat (first | apply Kd.R_alloc | apply Kd.R_drewN | apply Kd.R_drew)); exact (Kd.R_mono (Kd.R_far (p := ⟨gb238, 2, none⟩) (Kd.R_far (p := ⟨gb238, 1, none⟩) (Kd.R_far (p := ⟨gb238, 0, none⟩) (Kd.R_types HO247.out BK238.out (by decide)) (fun _ hk => hk.2) (.slice Ao21 t245.length co21)) (fun _ hk => hk.2) (.bool t248)) (fun _ hk => hk.2) (.int .i64 t249)) (fun _ h_ => h_.1)))); (case side2 => exact (Kd.R_reads' HO247.out).2.1); rintro e w23 ⟨v252, rfl, ho0, hb⟩; refine ⟨_, rfl, ?_⟩; have HO253 := Aside0.mk (Kd.R_lower (Kd.R_new' (Kd.R_new' (Kd.R_new' ho0 (Kd.R_lt (by (with_reducible repeat (first | apply Kd.R_alloc | apply Kd.R_drewN | apply Kd.R_drew)); exact (Kd.R_mono (Kd.R_far (p := ⟨gb238, 2, none⟩) (Kd.R_far (p := ⟨gb238, 1, none⟩) (Kd.R_far (p := ⟨gb238, 0, none⟩) (Kd.R_types HO234.out BK238.out (by decide)) (fun _ hk => hk.2) (.slice Ao21 t245.length co21)) (fun _ hk => hk.2) (.bool t248)) (fun _ hk => hk.2) (.int .i64 t249)) (fun _ h_ => h_.1))))) (Kd.R_lt (by (with_reducible repeat (first | apply Kd.R_alloc | apply Kd.R_drewN | apply Kd.R_drew)); exact (Kd.R_mono (Kd.R_far (p := ⟨gb238, 2, none⟩) (Kd.R_far (p := ⟨gb238, 1, none⟩) (Kd.R_far (p := ⟨gb238, 0, none⟩) (Kd.R_types HO241.out BK238.out (by decide)) (fun _ hk => hk.2) (.slice Ao21 t245.length co21)) (fun _ hk => hk.2) (.bool t248)) (fun _ hk => hk.2) (.int .i64 t249)) (fun _ h_ => h_.1))))) (Kd.R_lt (by (with_reducible repeat (first | apply Kd.R_alloc | apply Kd.R_drewN | apply Kd.R_drew)); exact (Kd.R_mono (Kd.R_far (p := ⟨gb238, 2, none⟩) (Kd.R_far (p := ⟨gb238, 1, none⟩) (Kd.R_far (p := ⟨gb238, 0, none⟩) (Kd.R_types HO247.out BK238.out (by decide)) (fun _ hk => hk.2) (.slice Ao21 t245.length co21)) (fun _ hk => hk.2) (.bool t248)) (fun _ hk => hk.2) (.int .i64 t249)) (fun _ h_ => h_.1))))) (below_size (bl_1 HB GE238))); replace HO234 := Aside0.mk (Kd.R_elder' (by (with_reducible repeat (first | apply Kd.R_alloc | apply Kd.R_drewN | apply Kd.R_drew)); exact (Kd.R_mono (Kd.R_far (p := ⟨gb238, 2, none⟩) (Kd.R_far (p := ⟨gb238, 1, none⟩) (Kd.R_far (p := ⟨gb238, 0, none⟩) (Kd.R_types HO234.out BK238.out (by decide)) (fun _ hk => hk.2) (.slice Ao21 t245.length co21)) (fun _ hk => hk.2) (.bool t248)) (fun _ hk => hk.2) (.int .i64 t249)) (fun _ h_ => h_.1))) (Kd.R_base ho0) hb); replace HO241 := Aside0.mk (Kd.R_elder' (by (with_reducible repeat (first | apply Kd.R_alloc | apply Kd.R_drewN | apply Kd.R_drew)); exact (Kd.R_mono (Kd.R_far (p := ⟨gb238, 2, none⟩) (Kd.R_far (p := ⟨gb238, 1, none⟩) (Kd.R_far (p := ⟨gb238, 0, none⟩) (Kd.R_types HO241.out BK238.out (by decide)) (fun _ hk => hk.2) (.slice Ao21 t245.length co21)) (fun _ hk => hk.2) (.bool t248)) (fun _ hk => hk.2) (.int .i64 t249)) (fun _ h_ => h_.1))) (Kd.R_base ho0) hb); replace HO247 := Aside0.mk (Kd.R_elder' (by (with_reducible repeat (first | apply Kd.R_alloc | apply Kd.R_drewN | apply Kd.R_drew)); exact (Kd.R_mono (Kd.R_far (p := ⟨gb238, 2, none⟩) (Kd.R_far (p := ⟨gb238, 1, none⟩) (Kd.R_far (p := ⟨gb238, 0, none⟩) (Kd.R_types HO247.out BK238.out (by decide)) (fun _ hk => hk.2) (.slice Ao21 t245.length co21)) (fun _ hk => hk.2) (.bool t248)) (fun _ hk => hk.2) (.int .i64 t249)) (fun _ h_ => h_.1))) (Kd.R_base ho0) hb); replace BK238 := Aside0.mk (blk_below (g := gb238) (o := .cells #[.slice Ao21 t245.length co21, .bool t248, .int .i64 t249] 24 (0, 0)) (bp_0 BK238) hb); replace HB := Aside0.mk (below_step (bl_1 HB GE238) hb); (try clear hb); (try clear hb2); (try clear hk); (try clear hi); (try clear ho0)) | ((with_reducible refine gate_dst (N := 5) rfl ?_); refine box_event ?hg (N := 5) ?hd (cs := #[.slice none 0 0, .bool false, .int .i64 0]) (t := 24) ?hr ?_; (case hd => rfl); (case hg => rfl); (case hr => first | (go_simp; done) | (go_simp; rfl)); intro gb257 hg w24 hbox hb; replace HO234 := Aside0.mk (Kd.R_below (by (with_reducible repeat (first | apply Kd.R_alloc | apply Kd.R_drewN | apply Kd.R_drew)); exact HO234.out) hb); replace HO241 := Aside0.mk (Kd.R_below (by (with_reducible repeat (first | apply Kd.R_alloc | apply Kd.R_drewN | apply Kd.R_drew)); exact HO241.out) hb); replace HO247 := Aside0.mk (Kd.R_below (by (with_reducible repeat (first | apply Kd.R_alloc | apply Kd.R_drewN | apply Kd.R_drew)); exact HO247.out) hb); replace HO253 := Aside0.mk (Kd.R_below (by (with_reducible repeat (first | apply Kd.R_alloc | apply Kd.R_drewN | apply Kd.R_drew)); exact HO253.out) hb); have BK257 := Aside0.mk (hbox); have GW257 := Aside0.mk (bs_1 hg HB GE238); have GE257 := Aside0.mk (bs_1 hg HB GE238); replace HB := Aside0.mk (below_step (bl_1 HB GE238) hb); have NB238_257 := Aside0.mk (nb_ hg BK238); have NB257_238 := Aside0.mk (nc_ hg BK238); replace BK238 := Aside0.mk (bb_ BK238 hb); clear hb hbox hg; obtain ⟨Ao25, co25, eo25⟩ := Kd.R_slice HO253.out; subst eo25; have hnb26 := NB257_238.out; have hnc26 := NB238_257.out; obtain ⟨hcz27_0, hcz27_1, hcz27_2, hfz27_0, hfz27_1, hfz27_2⟩ := c3_ BK257; obtain ⟨hcz28_0, hcz28_1, hcz28_2, hfz28_0, hfz28_1, hfz28_2⟩ := c3_ BK238) | ((with_reducible refine gate_dst (N := 32) rfl ?_); refine Kd.R_lit (Kd.int .i64) _ 3 ?hg (N := 32) ?hd (xs := ([1] : List Int)) (inner := [.int .i64 1]) (ok := fun _ => True) (okp := fun _ => True) ?hr ?hp (fun _ hk => hk) trivial (Below.refl _ _) (Nat.le_refl _) (by simp) ?_; (case hd => rfl); (case hg => rfl); (case hr => first | (go_simp; done) | (go_simp; rfl)); (case hp => exact (Reps.one (show Kd.M (Kd.int .i64) _ _ _ 1 [.int .i64 1] from rfl) (Reps.none _ _))); intro v259 w29 ho30 hb hg_ hnew_; clear hg_ hnew_; (first | rw [← Ny258.out] at ho30 | (simp only [Int.reduceToNat] at ho30; rw [← Ny258.out] at ho30)); replace HO234 := Aside0.mk (Kd.R_below (by (with_reducible repeat (first | apply Kd.R_alloc | apply Kd.R_drewN | apply Kd.R_drew)); exact (Kd.R_mono (Kd.R_far (p := ⟨gb257, 2, none⟩) (Kd.R_far (p := ⟨gb257, 1, none⟩) (Kd.R_far (p := ⟨gb257, 0, none⟩) (Kd.R_types HO234.out BK257.out (by decide)) (fun _ hk => hk.2) (.slice Ao25 t251.length co25)) (fun _ hk => hk.2) (.bool t254)) (fun _ hk => hk.2) (.int .i64 t255)) (fun _ h_ => h_.1))) hb); replace HO241 := Aside0.mk (Kd.R_below (by (with_reducible repeat (first | apply Kd.R_alloc | apply Kd.R_drewN | apply Kd.R_drew)); exact (Kd.R_mono (Kd.R_far (p := ⟨gb257, 2, none⟩) (Kd.R_far (p := ⟨gb257, 1, none⟩) (Kd.R_far (p := ⟨gb257, 0, none⟩) (Kd.R_types HO241.out BK257.out (by decide)) (fun _ hk => hk.2) (.slice Ao25 t251.length co25)) (fun _ hk => hk.2) (.bool t254)) (fun _ hk => hk.2) (.int .i64 t255)) (fun _ h_ => h_.1))) hb); replace HO247 := Aside0.mk (Kd.R_below (by (with_reducible repeat (first | apply Kd.R_alloc | apply Kd.R_drewN | apply Kd.R_drew)); exact (Kd.R_mono (Kd.R_far (p := ⟨gb257, 2, none⟩) (Kd.R_far (p := ⟨gb257, 1, none⟩) (Kd.R_far (p := ⟨gb257, 0, none⟩) (Kd.R_types HO247.out BK257.out (by decide)) (fun _ hk => hk.2) (.slice Ao25 t251.length co25)) (fun _ hk => hk.2) (.bool t254)) (fun _ hk => hk.2) (.int .i64 t255)) (fun _ h_ => h_.1))) hb); replace HO253 := Aside0.mk (Kd.R_below (by (with_reducible repeat (first | apply Kd.R_alloc | apply Kd.R_drewN | apply Kd.R_drew)); exact (Kd.R_mono (Kd.R_far (p := ⟨gb257, 2, none⟩) (Kd.R_far (p := ⟨gb257, 1, none⟩) (Kd.R_far (p := ⟨gb257, 0, none⟩) (Kd.R_types HO253.out BK257.out (by decide)) (fun _ hk => hk.2) (.slice Ao25 t251.length co25)) (fun _ hk => hk.2) (.bool t254)) (fun _ hk => hk.2) (.int .i64 t255)) (fun _ h_ => h_.1))) hb); have HO260 := Aside0.mk (Kd.R_lower ho30 (below_size (bl_2 HB GE238 GE257))); replace BK238 := Aside0.mk (blk_below (g := gb238) (o := .cells #[.slice Ao21 t245.length co21, .bool t248, .int .i64 t249] 24 (0, 0)) (bp_1 BK238 NB238_257) hb); replace BK257 := Aside0.mk (blk_below (g := gb257) (o := .cells #[.slice Ao25 t251.length co25, .bool t254, .int .i64 t255] 24 (0, 0)) (bp_0 BK257) hb); replace HB := Aside0.mk (below_step (bl_2 HB GE238 GE257) hb); clear hb ho30; obtain ⟨Ao31, co31, eo31⟩ := Kd.R_slice HO260.out; subst eo31) | ((with_reducible refine gate_callee (f := 12) rfl ?_); refine goesL_ (some 33) rfl rfl Try.func12 (by kernel_rfl) rfl #[.agg #[.slice Ao21 t245.length co21, .bool t248, .int .i64 t249], .slice Ao31 y258.length co31] rfl (ar_) ?_; (with_reducible refine (disk_Crash.calls k _ _ t245 t248 t249 _ _ y258 t261 t264 t265 t266 _ ?side1 ?side2 ?side3 ?side4 A5.out).mono ?_); (case side1 => repeat (first | exact (Kd.R_reads' HO247.out).2.2 | (with_reducible refine Kd.C_alloc ?_ _) | (with_reducible refine Kd.C_drewN ?_ _) | (with_reducible refine Kd.C_drew ?_))); (case side2 => exact (Kd.R_reads' HO247.out).2.1); (case side3 => repeat (first | exact (Kd.R_reads' HO260.out).2.2 | (with_reducible refine Kd.C_alloc ?_ _) | (with_reducible refine Kd.C_drewN ?_ _) | (with_reducible refine Kd.C_drew ?_))); (case side4 => exact (Kd.R_reads' HO260.out).2.1); rintro e w32 ⟨v262, rfl, ho0, hb⟩; refine ⟨_, rfl, ?_⟩; replace HO260 := Aside0.mk (Kd.R_below (by (with_reducible repeat (first | apply Kd.R_alloc | apply Kd.R_drewN | apply Kd.R_drew)); exact HO260.out) hb); have HO263 := Aside0.mk (Kd.R_lower (Kd.R_new' (Kd.R_new' (Kd.R_new' (Kd.R_new' ho0 (Kd.R_lt (by (with_reducible repeat (first | apply Kd.R_alloc | apply Kd.R_drewN | apply Kd.R_drew)); exact HO234.out))) (Kd.R_lt (by (with_reducible repeat (first | apply Kd.R_alloc | apply Kd.R_drewN | apply Kd.R_drew)); exact HO241.out))) (Kd.R_lt (by (with_reducible repeat (first | apply Kd.R_alloc | apply Kd.R_drewN | apply Kd.R_drew)); exact HO247.out))) (Kd.R_lt (by (with_reducible repeat (first | apply Kd.R_alloc | apply Kd.R_drewN | apply Kd.R_drew)); exact HO253.out))) (below_size (bl_2 HB GE238 GE257))); replace HO234 := Aside0.mk (Kd.R_elder' (by (with_reducible repeat (first | apply Kd.R_alloc | apply Kd.R_drewN | apply Kd.R_drew)); exact HO234.out) (Kd.R_base ho0) hb); replace HO241 := Aside0.mk (Kd.R_elder' (by (with_reducible repeat (first | apply Kd.R_alloc | apply Kd.R_drewN | apply Kd.R_drew)); exact HO241.out) (Kd.R_base ho0) hb); replace HO247 := Aside0.mk (Kd.R_elder' (by (with_reducible repeat (first | apply Kd.R_alloc | apply Kd.R_drewN | apply Kd.R_drew)); exact HO247.out) (Kd.R_base ho0) hb); replace HO253 := Aside0.mk (Kd.R_elder' (by (with_reducible repeat (first | apply Kd.R_alloc | apply Kd.R_drewN | apply Kd.R_drew)); exact HO253.out) (Kd.R_base ho0) hb); replace BK238 := Aside0.mk (bb_ BK238 hb); replace BK257 := Aside0.mk (bb_ BK257 hb); replace HB := Aside0.mk (below_step (bl_2 HB GE238 GE257) hb); (try clear hb); (try clear hb2); (try clear hk); (try clear hi); (try clear ho0); obtain ⟨Ao33, co33, eo33⟩ := Kd.R_slice HO263.out; subst eo33; obtain ⟨hcz34_0, hcz34_1, hcz34_2, hfz34_0, hfz34_1, hfz34_2⟩ := c3_ BK238) | ((with_reducible refine gate_callee (f := 17) rfl ?_); refine goesL_ (some 38) rfl rfl Try.func17 (by kernel_rfl) rfl #[.agg #[.slice Ao33 t261.length co33, .bool t264, .int .i64 t265], .string (⟨#[97]⟩ : ByteArray)] rfl (ar_) ?_; (with_reducible refine (disk_Read.calls k _ _ t261 t264 t265 (⟨#[97]⟩ : ByteArray) t267 t268 _ ?side1 ?side2 A6.out).mono ?_); (case side1 => refine (Kd.R_reads' (e := 35) (base := w.heap.size) (ok := fun k_ => ((((True ∧ some k_ ≠ (.slice Ao15 t232.length co15 : Value).ownBlock) ∧ some k_ ≠ (.slice Ao18 t239.length co18 : Value).ownBlock) ∧ some k_ ≠ (.slice Ao21 t245.length co21 : Value).ownBlock) ∧ some k_ ≠ (.slice Ao25 t251.length co25 : Value).ownBlock)) (n := t261.length) (c := co33) ?_).2.2; exact (by (with_reducible repeat (first | apply Kd.R_alloc | apply Kd.R_drewN | apply Kd.R_drew)); exact (Kd.R_mono (Kd.R_far (p := ⟨gb238, 2, none⟩) (Kd.R_far (p := ⟨gb238, 1, none⟩) (Kd.R_far (p := ⟨gb238, 0, none⟩) (Kd.R_types HO263.out BK238.out (by decide)) (fun _ hk => hk.2) (.slice Ao33 t261.length co33)) (fun _ hk => hk.2) (.bool t264)) (fun _ hk => hk.2) (.int .i64 t265)) (fun _ h_ => h_.1)))); (case side2 => exact (Kd.R_reads' HO263.out).2.1); rintro e w35 ⟨rfl, hb⟩; refine ⟨_, rfl, ?_⟩; replace HO234 := Aside0.mk (Kd.R_below (by (with_reducible repeat (first | apply Kd.R_alloc | apply Kd.R_drewN | apply Kd.R_drew)); exact (Kd.R_mono (Kd.R_far (p := ⟨gb238, 2, none⟩) (Kd.R_far (p := ⟨gb238, 1, none⟩) (Kd.R_far (p := ⟨gb238, 0, none⟩) (Kd.R_types HO234.out BK238.out (by decide)) (fun _ hk => hk.2) (.slice Ao33 t261.length co33)) (fun _ hk => hk.2) (.bool t264)) (fun _ hk => hk.2) (.int .i64 t265)) (fun _ h_ => h_.1))) hb); replace HO241 := Aside0.mk (Kd.R_below (by (with_reducible repeat (first | apply Kd.R_alloc | apply Kd.R_drewN | apply Kd.R_drew)); exact (Kd.R_mono (Kd.R_far (p := ⟨gb238, 2, none⟩) (Kd.R_far (p := ⟨gb238, 1, none⟩) (Kd.R_far (p := ⟨gb238, 0, none⟩) (Kd.R_types HO241.out BK238.out (by decide)) (fun _ hk => hk.2) (.slice Ao33 t261.length co33)) (fun _ hk => hk.2) (.bool t264)) (fun _ hk => hk.2) (.int .i64 t265)) (fun _ h_ => h_.1))) hb); replace HO247 := Aside0.mk (Kd.R_below (by (with_reducible repeat (first | apply Kd.R_alloc | apply Kd.R_drewN | apply Kd.R_drew)); exact (Kd.R_mono (Kd.R_far (p := ⟨gb238, 2, none⟩) (Kd.R_far (p := ⟨gb238, 1, none⟩) (Kd.R_far (p := ⟨gb238, 0, none⟩) (Kd.R_types HO247.out BK238.out (by decide)) (fun _ hk => hk.2) (.slice Ao33 t261.length co33)) (fun _ hk => hk.2) (.bool t264)) (fun _ hk => hk.2) (.int .i64 t265)) (fun _ h_ => h_.1))) hb); replace HO253 := Aside0.mk (Kd.R_below (by (with_reducible repeat (first | apply Kd.R_alloc | apply Kd.R_drewN | apply Kd.R_drew)); exact (Kd.R_mono (Kd.R_far (p := ⟨gb238, 2, none⟩) (Kd.R_far (p := ⟨gb238, 1, none⟩) (Kd.R_far (p := ⟨gb238, 0, none⟩) (Kd.R_types HO253.out BK238.out (by decide)) (fun _ hk => hk.2) (.slice Ao33 t261.length co33)) (fun _ hk => hk.2) (.bool t264)) (fun _ hk => hk.2) (.int .i64 t265)) (fun _ h_ => h_.1))) hb); replace HO260 := Aside0.mk (Kd.R_below (by (with_reducible repeat (first | apply Kd.R_alloc | apply Kd.R_drewN | apply Kd.R_drew)); exact (Kd.R_mono (Kd.R_far (p := ⟨gb238, 2, none⟩) (Kd.R_far (p := ⟨gb238, 1, none⟩) (Kd.R_far (p := ⟨gb238, 0, none⟩) (Kd.R_types HO260.out BK238.out (by decide)) (fun _ hk => hk.2) (.slice Ao33 t261.length co33)) (fun _ hk => hk.2) (.bool t264)) (fun _ hk => hk.2) (.int .i64 t265)) (fun _ h_ => h_.1))) hb); replace HO263 := Aside0.mk (Kd.R_below (by (with_reducible repeat (first | apply Kd.R_alloc | apply Kd.R_drewN | apply Kd.R_drew)); exact (Kd.R_mono (Kd.R_far (p := ⟨gb238, 2, none⟩) (Kd.R_far (p := ⟨gb238, 1, none⟩) (Kd.R_far (p := ⟨gb238, 0, none⟩) (Kd.R_types HO263.out BK238.out (by decide)) (fun _ hk => hk.2) (.slice Ao33 t261.length co33)) (fun _ hk => hk.2) (.bool t264)) (fun _ hk => hk.2) (.int .i64 t265)) (fun _ h_ => h_.1))) hb); replace BK238 := Aside0.mk (blk_below (g := gb238) (o := .cells #[.slice Ao33 t261.length co33, .bool t264, .int .i64 t265] 24 (0, 0)) (bp_0 BK238) hb); replace BK257 := Aside0.mk (blk_below (g := gb257) (o := .cells #[.slice Ao25 t251.length co25, .bool t254, .int .i64 t255] 24 (0, 0)) (bp_1 BK257 NB257_238) hb); replace HB := Aside0.mk (below_step (bl_2 HB GE238 GE257) hb); (try clear hb); (try clear hb2); (try clear hk); (try clear hi)))
       go_ret
       exact ⟨by first | rfl | (simp; done) | (simp [*]; done), bl_2 HB GE238 GE257⟩
      ·rw [if_neg c12] at H
       have c12b0 : (t268 == 0) = false := beq_eq_false_iff_ne.mpr c12
       have c12b1 : (t268 != 0) = true := bne_iff_ne.mpr c12
       exact absurd (H.trans (congrArg some hr)) (by simp)
     ·rw [if_neg c11] at H
      have c11b0 : (t266 == 0) = false := beq_eq_false_iff_ne.mpr c11
      have c11b1 : (t266 != 0) = true := bne_iff_ne.mpr c11
      exact absurd (H.trans (congrArg some hr)) (by simp)
    ·rw [if_neg c10] at H
     have c10b0 : (t256 == 9) = false := beq_eq_false_iff_ne.mpr c10
     have c10b1 : (t256 != 9) = true := bne_iff_ne.mpr c10
     exact absurd (H.trans (congrArg some hr)) (by simp)
   ·rw [if_neg c9] at H
    have c9b0 : (t250 == 0) = false := beq_eq_false_iff_ne.mpr c9
    have c9b1 : (t250 != 0) = true := bne_iff_ne.mpr c9
    exact absurd (H.trans (congrArg some hr)) (by simp)
  ·rw [if_neg c8] at H
   have c8b0 : (t244 == 0) = false := beq_eq_false_iff_ne.mpr c8
   have c8b1 : (t244 != 0) = true := bne_iff_ne.mpr c8
   exact absurd (H.trans (congrArg some hr)) (by simp)
 ·rw [if_neg c7] at H
  have c7b0 : (t237 == 0) = false := beq_eq_false_iff_ne.mpr c7
  have c7b1 : (t237 != 0) = true := bne_iff_ne.mpr c7
  exact absurd (H.trans (congrArg some hr)) (by simp)

/-! ### gafferref02_Same: function 15 -/
mutual
def gafferref02_Same.j0 : Nat → Bool → List (S35) → Bool → Int → List (S35) → Bool → Int → Option (Bool)
 | 0, _, _, _, _, _, _, _ => none
 | k + 1, x26, x270000, x270001, x270002, x271000, x271001, x271002 => if x26 = true then (some false) else (gafferref02_Same.l0 k (x270000.length : Int) 0 x270000 x270001 x270002 x271000 x271001 x271002)
def gafferref02_Same.l0 : Nat → Int → Int → List (S35) → Bool → Int → List (S35) → Bool → Int → Option (Bool)
 | 0, _, _, _, _, _, _, _, _ => none
 | k + 1, x29, x30, x270000, x270001, x270002, x271000, x271001, x271002 => if x30 < x29 then (if 0 ≤ x30 then (if x30 < (x270000.length : Int) then (if x30 < (x271000.length : Int) then (if (!((((rd_T35 x270000 x30).f0).toList) == (((rd_T35 x271000 x30).f0).toList)) || (!((((rd_T35 x270000 x30).f1).toList) == (((rd_T35 x271000 x30).f1).toList)) || (!(((rd_T35 x270000 x30).f2) == ((rd_T35 x271000 x30).f2))))) = true then (some false) else (gafferref02_Same.l0 k x29 (wrap64 (x30 + 1)) x270000 x270001 x270002 x271000 x271001 x271002)) else (none)) else (none)) else (none)) else (some true)
end
def gafferref02_Same.f (k : Nat) (l0_0 : List (S35)) (a0_1 : Bool) (a0_2 : Int) (l1_0 : List (S35)) (a1_1 : Bool) (a1_2 : Int) : Option (Bool) := if (a0_1 != a1_1) = true then (gafferref02_Same.j0 k true l0_0 a0_1 a0_2 l1_0 a1_1 a1_2) else (if a0_2 = a1_2 then (gafferref02_Same.j0 k ((l0_0.length : Int) != (l1_0.length : Int)) l0_0 a0_1 a0_2 l1_0 a1_1 a1_2) else (gafferref02_Same.j0 k true l0_0 a0_1 a0_2 l1_0 a1_1 a1_2))
theorem gafferref02_Same.mono_l : ∀ k, (∀ y0 y1 y2 y3 y4 y5 y6, LeO (gafferref02_Same.j0 k y0 y1 y2 y3 y4 y5 y6) (gafferref02_Same.j0 (k + 1) y0 y1 y2 y3 y4 y5 y6)) ∧ (∀ y0 y1 y2 y3 y4 y5 y6 y7, LeO (gafferref02_Same.l0 k y0 y1 y2 y3 y4 y5 y6 y7) (gafferref02_Same.l0 (k + 1) y0 y1 y2 y3 y4 y5 y6 y7))
 | 0 => ⟨fun _ _ _ _ _ _ _ r h => by simp [gafferref02_Same.j0] at h, fun _ _ _ _ _ _ _ _ r h => by simp [gafferref02_Same.l0] at h⟩
 | k + 1 => by
  obtain ⟨ih0, ih1⟩ := gafferref02_Same.mono_l k
  refine ⟨?_, ?_⟩
  ·intro y0 y1 y2 y3 y4 y5 y6
   unfold gafferref02_Same.j0
   repeat' first
   | (with_reducible exact ih0 _ _ _ _ _ _ _)
   | (with_reducible exact ih1 _ _ _ _ _ _ _ _)
   | (with_reducible exact LeO.refl _)
   | (with_reducible exact LeO.none _)
   | (with_reducible refine LeO.ite ?_ ?_)
   | (with_reducible refine LeO.bind ?_ (fun _ => ?_))
   | exact ih0 _ _ _ _ _ _ _
   | exact ih1 _ _ _ _ _ _ _ _
   | exact LeO.none _
   | refine LeO.ite ?_ ?_
   | refine LeO.bind ?_ (fun _ => ?_)
  ·intro y0 y1 y2 y3 y4 y5 y6 y7
   unfold gafferref02_Same.l0
   repeat' first
   | (with_reducible exact ih0 _ _ _ _ _ _ _)
   | (with_reducible exact ih1 _ _ _ _ _ _ _ _)
   | (with_reducible exact LeO.refl _)
   | (with_reducible exact LeO.none _)
   | (with_reducible refine LeO.ite ?_ ?_)
   | (with_reducible refine LeO.bind ?_ (fun _ => ?_))
   | exact ih0 _ _ _ _ _ _ _
   | exact ih1 _ _ _ _ _ _ _ _
   | exact LeO.none _
   | refine LeO.ite ?_ ?_
   | refine LeO.bind ?_ (fun _ => ?_)
theorem gafferref02_Same.mono : ∀ a0 a1 a2 a3 a4 a5 k, LeO (gafferref02_Same.f k a0 a1 a2 a3 a4 a5) (gafferref02_Same.f (k + 1) a0 a1 a2 a3 a4 a5) := by
 intro a0 a1 a2 a3 a4 a5 k
 obtain ⟨ih0, ih1⟩ := gafferref02_Same.mono_l k
 unfold gafferref02_Same.f
 repeat' first
   | (with_reducible exact ih0 _ _ _ _ _ _ _)
   | (with_reducible exact ih1 _ _ _ _ _ _ _ _)
   | (with_reducible exact LeO.refl _)
   | (with_reducible exact LeO.none _)
   | (with_reducible refine LeO.ite ?_ ?_)
   | (with_reducible refine LeO.bind ?_ (fun _ => ?_))
   | exact ih0 _ _ _ _ _ _ _
   | exact ih1 _ _ _ _ _ _ _ _
   | exact LeO.none _
   | refine LeO.ite ?_ ?_
   | refine LeO.bind ?_ (fun _ => ?_)
set_option maxHeartbeats 80000000 in
set_option maxRecDepth 100000 in
theorem gafferref02_Same.calls (k : Nat) (A0_0 : Option Addr) (c0_0 : Nat) (l0_0 : List (S35)) (a0_1 : Bool) (a0_2 : Int) (A1_0 : Option Addr) (c1_0 : Nat) (l1_0 : List (S35)) (a1_1 : Bool) (a1_2 : Int) (r : Bool) (w : World) (hr0_0 : Kd.C k35 w A0_0 l0_0.length l0_0) (hc0_0 : l0_0.length ≤ c0_0) (hr1_0 : Kd.C k35 w A1_0 l1_0.length l1_0) (hc1_0 : l1_0.length ≤ c1_0) (h : gafferref02_Same.f k l0_0 a0_1 a0_2 l1_0 a1_1 a1_2 = some r) :
  Calls Try.prog 15 #[.agg #[.slice A0_0 l0_0.length c0_0, .bool a0_1, .int .i64 a0_2], .agg #[.slice A1_0 l1_0.length c1_0, .bool a1_1, .int .i64 a1_2]] w fun e w' => e = .returned (.bool r) ∧ Below w.heap.size w w' := by
 have hu24 := Try.underlying24
 have hu35 := Try.underlying35
 have HR0_0 := Aside0.mk hr0_0
 have HC0_0 := Aside0.mk hc0_0
 clear hr0_0 hc0_0
 have HR1_0 := Aside0.mk hr1_0
 have HC1_0 := Aside0.mk hc1_0
 clear hr1_0 hc1_0
 have HB := Aside0.mk (Below.refl w.heap.size w)
 have H : (if (a0_1 != a1_1) = true then (gafferref02_Same.j0 k true l0_0 a0_1 a0_2 l1_0 a1_1 a1_2) else (if a0_2 = a1_2 then (gafferref02_Same.j0 k ((l0_0.length : Int) != (l1_0.length : Int)) l0_0 a0_1 a0_2 l1_0 a1_1 a1_2) else (gafferref02_Same.j0 k true l0_0 a0_1 a0_2 l1_0 a1_1 a1_2))) = some r := h
 clear h
 have HC3 := Aside0.mk H
 clear H
 go_enter Try.func15, Try.ntmps15
 go_upto_region 1 with (first | ((with_reducible refine gate_dst (N := 2) rfl ?_); (try (refine gate_guard (by rfl) ?_; dsimp only)); refine box_event ?hg (N := 2) ?hd (cs := #[.slice A0_0 l0_0.length c0_0, .bool a0_1, .int .i64 a0_2]) (t := 24) ?hr ?_; (case hd => rfl); (case hg => rfl); (case hr => first | (go_simp; done) | (go_simp; rfl)); intro gb269 hg w4 hbox hb; have BK269 := Aside0.mk (hbox); have GW269 := Aside0.mk (bs_0 hg HB); have GE269 := Aside0.mk (bs_0 hg HB); replace HB := Aside0.mk (below_step (bl_ HB) hb); clear hb hbox hg) | ((with_reducible refine gate_dst (N := 3) rfl ?_); (try (refine gate_guard (by rfl) ?_; dsimp only)); refine box_event ?hg (N := 3) ?hd (cs := #[.slice A1_0 l1_0.length c1_0, .bool a1_1, .int .i64 a1_2]) (t := 24) ?hr ?_; (case hd => rfl); (case hg => rfl); (case hr => first | (go_simp; done) | (go_simp; rfl)); intro gb270 hg w5 hbox hb; have BK270 := Aside0.mk (hbox); have GW270 := Aside0.mk (bs_1 hg HB GE269); have GE270 := Aside0.mk (bs_1 hg HB GE269); replace HB := Aside0.mk (below_step (bl_1 HB GE269) hb); have NB269_270 := Aside0.mk (nb_ hg BK269); have NB270_269 := Aside0.mk (nc_ hg BK269); replace BK269 := Aside0.mk (bb_ BK269 hb); clear hb hbox hg))
 repeat (go_quiet (first | ((with_reducible refine gate_dst (N := 2) rfl ?_); (try (refine gate_guard (by rfl) ?_; dsimp only)); refine box_event ?hg (N := 2) ?hd (cs := #[.slice A0_0 l0_0.length c0_0, .bool a0_1, .int .i64 a0_2]) (t := 24) ?hr ?_; (case hd => rfl); (case hg => rfl); (case hr => first | (go_simp; done) | (go_simp; rfl)); intro gb269 hg w4 hbox hb; have BK269 := Aside0.mk (hbox); have GW269 := Aside0.mk (bs_0 hg HB); have GE269 := Aside0.mk (bs_0 hg HB); replace HB := Aside0.mk (below_step (bl_ HB) hb); clear hb hbox hg) | ((with_reducible refine gate_dst (N := 3) rfl ?_); (try (refine gate_guard (by rfl) ?_; dsimp only)); refine box_event ?hg (N := 3) ?hd (cs := #[.slice A1_0 l1_0.length c1_0, .bool a1_1, .int .i64 a1_2]) (t := 24) ?hr ?_; (case hd => rfl); (case hg => rfl); (case hr => first | (go_simp; done) | (go_simp; rfl)); intro gb270 hg w5 hbox hb; have BK270 := Aside0.mk (hbox); have GW270 := Aside0.mk (bs_1 hg HB GE269); have GE270 := Aside0.mk (bs_1 hg HB GE269); replace HB := Aside0.mk (below_step (bl_1 HB GE269) hb); have NB269_270 := Aside0.mk (nb_ hg BK269); have NB270_269 := Aside0.mk (nc_ hg BK269); replace BK269 := Aside0.mk (bb_ BK269 hb); clear hb hbox hg)); go_upto_region 1 with (first | ((with_reducible refine gate_dst (N := 2) rfl ?_); (try (refine gate_guard (by rfl) ?_; dsimp only)); refine box_event ?hg (N := 2) ?hd (cs := #[.slice A0_0 l0_0.length c0_0, .bool a0_1, .int .i64 a0_2]) (t := 24) ?hr ?_; (case hd => rfl); (case hg => rfl); (case hr => first | (go_simp; done) | (go_simp; rfl)); intro gb269 hg w4 hbox hb; have BK269 := Aside0.mk (hbox); have GW269 := Aside0.mk (bs_0 hg HB); have GE269 := Aside0.mk (bs_0 hg HB); replace HB := Aside0.mk (below_step (bl_ HB) hb); clear hb hbox hg) | ((with_reducible refine gate_dst (N := 3) rfl ?_); (try (refine gate_guard (by rfl) ?_; dsimp only)); refine box_event ?hg (N := 3) ?hd (cs := #[.slice A1_0 l1_0.length c1_0, .bool a1_1, .int .i64 a1_2]) (t := 24) ?hr ?_; (case hd => rfl); (case hg => rfl); (case hr => first | (go_simp; done) | (go_simp; rfl)); intro gb270 hg w5 hbox hb; have BK270 := Aside0.mk (hbox); have GW270 := Aside0.mk (bs_1 hg HB GE269); have GE270 := Aside0.mk (bs_1 hg HB GE269); replace HB := Aside0.mk (below_step (bl_1 HB GE269) hb); have NB269_270 := Aside0.mk (nb_ hg BK269); have NB270_269 := Aside0.mk (nc_ hg BK269); replace BK269 := Aside0.mk (bb_ BK269 hb); clear hb hbox hg)))
 (try simp only [Act.put, List.setIfInBounds_toArray, List.set_cons_zero, List.set_cons_succ])
 go_cut [26] (fun v26 wc => ∃ (kq : Nat) (x26_2 : Bool), v26 = .bool x26_2 ∧ Aside0 (gafferref02_Same.j0 kq x26_2 l0_0 a0_1 a0_2 l1_0 a1_1 a1_2 = some r) ∧ Aside0 (kq ≤ k) ∧ Aside0 (wc.heap[gb269]? = some (.cells #[(.slice A0_0 l0_0.length c0_0), .bool a0_1, .int .i64 a0_2] 24 (0, 0))) ∧ Aside0 (wc.heap[gb270]? = some (.cells #[(.slice A1_0 l1_0.length c1_0), .bool a1_1, .int .i64 a1_2] 24 (0, 0))) ∧ Aside0 (Below w.heap.size w wc))
 case first =>
  have H := HC3.out
  clear HC3
  by_cases c6 : (a0_1 != a1_1) = true
  ·rw [if_pos c6] at H
   have c6b0 : (a0_1 != a1_1) = true := c6
   (try (have c6b1 : decide (a0_1 = a1_1) = false := by simpa using c6))
   (try (have c6b2 : (a0_1 == a1_1) = false := by simpa using c6))
   (try (have c6b3 : ¬ (a0_1 = a1_1) := by simpa using c6))
   clear c6
   (first | rw [c6b0] | (simp only [i64_w, i32_w]; rw [c6b0]) | skip)
   have H' := Aside0.mk H
   clear H
   have hnb7 := NB269_270.out
   have hnc7 := NB270_269.out
   obtain ⟨hcz8_0, hcz8_1, hcz8_2, hfz8_0, hfz8_1, hfz8_2⟩ := c3_ BK269
   obtain ⟨hcz9_0, hcz9_1, hcz9_2, hfz9_0, hfz9_1, hfz9_2⟩ := c3_ BK270
   go_wp2
   repeat (go_quiet (fail); try go_wp2)
   go_meet
   case rel => exact ⟨_, (true), (by first | rfl | (simp; done) | (simp [*]; done)), H', ⟨by first | omega | exact Nat.le_refl _⟩, ⟨bk_ BK269⟩, ⟨bk_ BK270⟩, ⟨bl_2 HB GE269 GE270⟩⟩
  ·rw [if_neg c6] at H
   have c6b0 : (a0_1 != a1_1) = false := by simpa using c6
   (try (have c6b1 : decide (a0_1 = a1_1) = true := by simpa using c6))
   (try (have c6b2 : (a0_1 == a1_1) = true := by simpa using c6))
   clear c6
   (first | rw [c6b0] | (simp only [i64_w, i32_w]; rw [c6b0]) | skip)
   by_cases c10 : a0_2 = a1_2
   ·rw [if_pos c10] at H
    have c10b0 : (a0_2 == a1_2) = true := beq_iff_eq.mpr c10
    have c10b1 : (a0_2 != a1_2) = false := bne_eq_false_iff_eq.mpr c10
    clear c10
    have H' := Aside0.mk H
    clear H
    have hnb11 := NB269_270.out
    have hnc11 := NB270_269.out
    obtain ⟨hcz12_0, hcz12_1, hcz12_2, hfz12_0, hfz12_1, hfz12_2⟩ := c3_ BK269
    obtain ⟨hcz13_0, hcz13_1, hcz13_2, hfz13_0, hfz13_1, hfz13_2⟩ := c3_ BK270
    go_wp2
    repeat (go_quiet (fail); try go_wp2)
    go_meet
    case rel => exact ⟨_, (((l0_0.length : Int) != (l1_0.length : Int))), (by first | rfl | (simp; done) | (simp [*]; done)), H', ⟨by first | omega | exact Nat.le_refl _⟩, ⟨bk_ BK269⟩, ⟨bk_ BK270⟩, ⟨bl_2 HB GE269 GE270⟩⟩
   ·rw [if_neg c10] at H
    have c10b0 : (a0_2 == a1_2) = false := beq_eq_false_iff_ne.mpr c10
    have c10b1 : (a0_2 != a1_2) = true := bne_iff_ne.mpr c10
    have H' := Aside0.mk H
    clear H
    have hnb14 := NB269_270.out
    have hnc14 := NB270_269.out
    obtain ⟨hcz15_0, hcz15_1, hcz15_2, hfz15_0, hfz15_1, hfz15_2⟩ := c3_ BK269
    obtain ⟨hcz16_0, hcz16_1, hcz16_2, hfz16_0, hfz16_1, hfz16_2⟩ := c3_ BK270
    go_wp2
    repeat (go_quiet (fail); try go_wp2)
    go_meet
    case rel => exact ⟨_, (true), (by first | rfl | (simp; done) | (simp [*]; done)), H', ⟨by first | omega | exact Nat.le_refl _⟩, ⟨bk_ BK269⟩, ⟨bk_ BK270⟩, ⟨bl_2 HB GE269 GE270⟩⟩
 case rest =>
  clear HC3
  try clear c1
  try clear p2
  try clear c6
  try clear c6b0
  try clear c6b1
  try clear c6b2
  try clear c7
  try clear c10
  try clear c10b0
  try clear c10b1
  try clear c11
  try clear c14
  try clear c15
  try clear hcz12_0
  try clear hcz12_1
  try clear hcz12_2
  try clear hcz13_0
  try clear hcz13_1
  try clear hcz13_2
  try clear hcz15_0
  try clear hcz15_1
  try clear hcz15_2
  try clear hcz16_0
  try clear hcz16_1
  try clear hcz16_2
  try clear hcz8_0
  try clear hcz8_1
  try clear hcz8_2
  try clear hcz9_0
  try clear hcz9_1
  try clear hcz9_2
  try clear hfz12_0
  try clear hfz12_1
  try clear hfz12_2
  try clear hfz13_0
  try clear hfz13_1
  try clear hfz13_2
  try clear hfz15_0
  try clear hfz15_1
  try clear hfz15_2
  try clear hfz16_0
  try clear hfz16_1
  try clear hfz16_2
  try clear hfz8_0
  try clear hfz8_1
  try clear hfz8_2
  try clear hfz9_0
  try clear hfz9_1
  try clear hfz9_2
  obtain ⟨kq, x26_2, rfl, HA, HJ2, BK269, BK270, HB⟩ := hcut
  cases kq with
  | zero => exact absurd HA.out (by simp [gafferref02_Same.j0])
  | succ kj2 =>
   have H := HA.out
   clear HA
   simp only [gafferref02_Same.j0] at H
   by_cases c17 : x26_2 = true
   ·subst c17
    have H1 : (some false) = some r := by rw [if_pos rfl] at H; exact H
    clear H
    have H := H1
    clear H1
    obtain rfl := Option.some.inj H
    go_wp2
    repeat (go_quiet (fail); try go_wp2)
    go_ret
    exact ⟨by first | rfl | (simp; done) | (simp [*]; done), bl_2 HB GE269 GE270⟩
   ·replace c17 := Bool.eq_false_iff.mpr c17
    subst c17
    have H1 : (gafferref02_Same.l0 kj2 (l0_0.length : Int) 0 l0_0 a0_1 a0_2 l1_0 a1_1 a1_2) = some r := by rw [if_neg (show ¬ (false = true) by decide)] at H; exact H
    clear H
    have H := H1
    clear H1
    have H' := Aside0.mk H
    clear H
    have hnb18 := NB269_270.out
    have hnc18 := NB270_269.out
    obtain ⟨hcz19_0, hcz19_1, hcz19_2, hfz19_0, hfz19_1, hfz19_2⟩ := c3_ BK269
    go_wp2
    repeat (go_quiet (fail); try go_wp2)
    go_loopg [30] kj2 (fun kq v30 w' => ∃ (x30_2 : Int), v30 = .int .i64 x30_2 ∧ Aside0 (gafferref02_Same.l0 kq (l0_0.length : Int) x30_2 l0_0 a0_1 a0_2 l1_0 a1_1 a1_2 = some r) ∧ Aside0 (kq ≤ kj2) ∧ Aside0 (w'.heap[gb269]? = some (.cells #[(.slice A0_0 l0_0.length c0_0), .bool a0_1, .int .i64 a0_2] 24 (0, 0))) ∧ Aside0 (w'.heap[gb270]? = some (.cells #[(.slice A1_0 l1_0.length c1_0), .bool a1_1, .int .i64 a1_2] 24 (0, 0))) ∧ Aside0 (Below w.heap.size w w'))
    case atStart => exact ⟨(0), (by first | rfl | (simp; done) | (simp [*]; done)), H', ⟨Nat.le_refl _⟩, ⟨bk_ BK269⟩, ⟨bk_ BK270⟩, ⟨bl_2 HB GE269 GE270⟩⟩
    case round =>
     clear H'
     try clear c1
     try clear p2
     try clear c6
     try clear c6b0
     try clear c6b1
     try clear c6b2
     try clear c7
     try clear c10
     try clear c10b0
     try clear c10b1
     try clear c11
     try clear c14
     try clear c15
     try clear c17
     try clear c18
     try clear hcz12_0
     try clear hcz12_1
     try clear hcz12_2
     try clear hcz13_0
     try clear hcz13_1
     try clear hcz13_2
     try clear hcz15_0
     try clear hcz15_1
     try clear hcz15_2
     try clear hcz16_0
     try clear hcz16_1
     try clear hcz16_2
     try clear hcz19_0
     try clear hcz19_1
     try clear hcz19_2
     try clear hcz8_0
     try clear hcz8_1
     try clear hcz8_2
     try clear hcz9_0
     try clear hcz9_1
     try clear hcz9_2
     try clear hfz12_0
     try clear hfz12_1
     try clear hfz12_2
     try clear hfz13_0
     try clear hfz13_1
     try clear hfz13_2
     try clear hfz15_0
     try clear hfz15_1
     try clear hfz15_2
     try clear hfz16_0
     try clear hfz16_1
     try clear hfz16_2
     try clear hfz19_0
     try clear hfz19_1
     try clear hfz19_2
     try clear hfz8_0
     try clear hfz8_1
     try clear hfz8_2
     try clear hfz9_0
     try clear hfz9_1
     try clear hfz9_2
     try clear p2
     obtain ⟨x30_2, rfl, HA, HK2, BK269, BK270, HB⟩ := hrel
     cases gk with
     | zero => exact absurd HA.out (by simp [gafferref02_Same.l0])
     | succ k2 =>
      have H := HA.out
      clear HA
      simp only [gafferref02_Same.l0] at H
      by_cases c20 : x30_2 < (l0_0.length : Int)
      ·rw [if_pos c20] at H
       have c20b0 : decide (x30_2 < (l0_0.length : Int)) = true := decide_eq_true c20
       clear c20
       by_cases c21 : 0 ≤ x30_2
       ·rw [if_pos c21] at H
        have c21b0 : decide (0 ≤ x30_2) = true := decide_eq_true c21
        clear c21
        by_cases c22 : x30_2 < (l0_0.length : Int)
        ·rw [if_pos c22] at H
         have c22b0 : decide (x30_2 < (l0_0.length : Int)) = true := decide_eq_true c22
         clear c22
         by_cases c23 : x30_2 < (l1_0.length : Int)
         ·rw [if_pos c23] at H
          have c23b0 : decide (x30_2 < (l1_0.length : Int)) = true := decide_eq_true c23
          clear c23
          by_cases c24 : (!((((rd_T35 l0_0 x30_2).f0).toList) == (((rd_T35 l1_0 x30_2).f0).toList)) || (!((((rd_T35 l0_0 x30_2).f1).toList) == (((rd_T35 l1_0 x30_2).f1).toList)) || (!(((rd_T35 l0_0 x30_2).f2) == ((rd_T35 l1_0 x30_2).f2))))) = true
          ·rw [if_pos c24] at H
           have c24b0 : (!((((rd_T35 l0_0 x30_2).f0).toList) == (((rd_T35 l1_0 x30_2).f0).toList)) || (!((((rd_T35 l0_0 x30_2).f1).toList) == (((rd_T35 l1_0 x30_2).f1).toList)) || (!(((rd_T35 l0_0 x30_2).f2) == ((rd_T35 l1_0 x30_2).f2))))) = true := c24
           clear c24
           obtain rfl := Option.some.inj H
           have hnb25 := NB269_270.out
           have hnc25 := NB270_269.out
           obtain ⟨hcz26_0, hcz26_1, hcz26_2, hfz26_0, hfz26_1, hfz26_2⟩ := c3_ BK269
           have p271 : 0 ≤ (x30_2 : Int) := of_decide_eq_true (by first | (with_reducible assumption) | assumption)
           have q271 : x30_2 < (l0_0.length : Int) := of_decide_eq_true (by first | (with_reducible assumption) | assumption)
           obtain ⟨ad271, e271, hx271_0, hx271_1, hx271_2⟩ := at_T35 HR0_0.out x30_2 p271 q271
           cases e271
           replace hx271_0 := (HB.out.cell (World.block_lt_of_cell? w _ hx271_0)).trans hx271_0
           replace hx271_1 := (HB.out.cell (World.block_lt_of_cell? w _ hx271_1)).trans hx271_1
           replace hx271_2 := (HB.out.cell (World.block_lt_of_cell? w _ hx271_2)).trans hx271_2
           replace p271 := eq_true p271
           replace q271 := eq_true q271
           obtain ⟨hcz27_0, hcz27_1, hcz27_2, hfz27_0, hfz27_1, hfz27_2⟩ := c3_ BK270
           have p272 : 0 ≤ (x30_2 : Int) := of_decide_eq_true (by first | (with_reducible assumption) | assumption)
           have q272 : x30_2 < (l1_0.length : Int) := of_decide_eq_true (by first | (with_reducible assumption) | assumption)
           obtain ⟨ad272, e272, hx272_0, hx272_1, hx272_2⟩ := at_T35 HR1_0.out x30_2 p272 q272
           cases e272
           replace hx272_0 := (HB.out.cell (World.block_lt_of_cell? w _ hx272_0)).trans hx272_0
           replace hx272_1 := (HB.out.cell (World.block_lt_of_cell? w _ hx272_1)).trans hx272_1
           replace hx272_2 := (HB.out.cell (World.block_lt_of_cell? w _ hx272_2)).trans hx272_2
           replace p272 := eq_true p272
           replace q272 := eq_true q272
           go_wp2
           repeat (go_quiet (fail); try go_wp2)
           go_ret
           exact ⟨by first | rfl | (simp; done) | (simp [*]; done), bl_2 HB GE269 GE270⟩
          ·rw [if_neg c24] at H
           have c24b0 : (!((((rd_T35 l0_0 x30_2).f0).toList) == (((rd_T35 l1_0 x30_2).f0).toList)) || (!((((rd_T35 l0_0 x30_2).f1).toList) == (((rd_T35 l1_0 x30_2).f1).toList)) || (!(((rd_T35 l0_0 x30_2).f2) == ((rd_T35 l1_0 x30_2).f2))))) = false := by simpa using c24
           clear c24
           have H' := Aside0.mk H
           clear H
           have hnb28 := NB269_270.out
           have hnc28 := NB270_269.out
           obtain ⟨hcz29_0, hcz29_1, hcz29_2, hfz29_0, hfz29_1, hfz29_2⟩ := c3_ BK269
           have p271 : 0 ≤ (x30_2 : Int) := of_decide_eq_true (by first | (with_reducible assumption) | assumption)
           have q271 : x30_2 < (l0_0.length : Int) := of_decide_eq_true (by first | (with_reducible assumption) | assumption)
           obtain ⟨ad271, e271, hx271_0, hx271_1, hx271_2⟩ := at_T35 HR0_0.out x30_2 p271 q271
           cases e271
           replace hx271_0 := (HB.out.cell (World.block_lt_of_cell? w _ hx271_0)).trans hx271_0
           replace hx271_1 := (HB.out.cell (World.block_lt_of_cell? w _ hx271_1)).trans hx271_1
           replace hx271_2 := (HB.out.cell (World.block_lt_of_cell? w _ hx271_2)).trans hx271_2
           replace p271 := eq_true p271
           replace q271 := eq_true q271
           obtain ⟨hcz30_0, hcz30_1, hcz30_2, hfz30_0, hfz30_1, hfz30_2⟩ := c3_ BK270
           have p272 : 0 ≤ (x30_2 : Int) := of_decide_eq_true (by first | (with_reducible assumption) | assumption)
           have q272 : x30_2 < (l1_0.length : Int) := of_decide_eq_true (by first | (with_reducible assumption) | assumption)
           obtain ⟨ad272, e272, hx272_0, hx272_1, hx272_2⟩ := at_T35 HR1_0.out x30_2 p272 q272
           cases e272
           replace hx272_0 := (HB.out.cell (World.block_lt_of_cell? w _ hx272_0)).trans hx272_0
           replace hx272_1 := (HB.out.cell (World.block_lt_of_cell? w _ hx272_1)).trans hx272_1
           replace hx272_2 := (HB.out.cell (World.block_lt_of_cell? w _ hx272_2)).trans hx272_2
           replace p272 := eq_true p272
           replace q272 := eq_true q272
           go_wp2
           repeat (go_quiet (fail); try go_wp2)
           go_roundg k2
           case measure => have := HJ2.out; have := HK2.out; omega
           case rel => exact ⟨(wrap64 (x30_2 + 1)), (by first | rfl | (simp; done) | (simp [*]; done)), H', ⟨by have := HJ2.out; have := HK2.out; omega⟩, ⟨bk_ BK269⟩, ⟨bk_ BK270⟩, ⟨bl_2 HB GE269 GE270⟩⟩
         ·rw [if_neg c23] at H
          exact absurd H (by simp)
        ·rw [if_neg c22] at H
         exact absurd H (by simp)
       ·rw [if_neg c21] at H
        exact absurd H (by simp)
      ·rw [if_neg c20] at H
       have c20b0 : decide (x30_2 < (l0_0.length : Int)) = false := decide_eq_false c20
       clear c20
       obtain rfl := Option.some.inj H
       go_wp2
       repeat (go_quiet (fail); try go_wp2)
       go_ret
       exact ⟨by first | rfl | (simp; done) | (simp [*]; done), bl_2 HB GE269 GE270⟩

/-! ### gafferref02_Check: function 31 -/
def gafferref02_Check.l0 : Nat → List (S35) → Int → Int → List (S35) → Bool → Int → Option (Int)
 | 0, _, _, _, _, _, _ => none
 | k + 1, x10, x11, x12, x274000, x274001, x274002 => if x12 < x11 then (if 0 ≤ x12 then (if x12 < (x10.length : Int) then (if ((rd_T35 x10 x12).f2) < 0 then (some 10) else (if ((rd_T35 x10 x12).f2) > (((rd_T35 x10 x12).f1).size : Int) then (some 10) else (if x12 > 0 then (if 0 ≤ (wrap64 (x12 - 1)) then (if (wrap64 (x12 - 1)) < (x274000.length : Int) then (if ((Op.bytesLess (((rd_T35 x274000 (wrap64 (x12 - 1))).f0).toList) (((rd_T35 x10 x12).f0).toList)) = true) then (gafferref02_Check.l0 k x10 x11 (wrap64 (x12 + 1)) x274000 x274001 x274002) else (some 10)) else (none)) else (none)) else (gafferref02_Check.l0 k x10 x11 (wrap64 (x12 + 1)) x274000 x274001 x274002)))) else (none)) else (none)) else (some 0)
def gafferref02_Check.f (k : Nat) (l0_0 : List (S35)) (a0_1 : Bool) (a0_2 : Int) : Option (Int) := if (l0_0.length : Int) > 4096 then (some 10) else (gafferref02_Check.l0 k l0_0 (l0_0.length : Int) 0 l0_0 a0_1 a0_2)
theorem gafferref02_Check.mono_l : ∀ k, (∀ y0 y1 y2 y3 y4 y5, LeO (gafferref02_Check.l0 k y0 y1 y2 y3 y4 y5) (gafferref02_Check.l0 (k + 1) y0 y1 y2 y3 y4 y5))
 | 0 => fun _ _ _ _ _ _ r h => by simp [gafferref02_Check.l0] at h
 | k + 1 => by
  have ih0 := gafferref02_Check.mono_l k
  ·intro y0 y1 y2 y3 y4 y5
   unfold gafferref02_Check.l0
   repeat' first
   | (with_reducible exact ih0 _ _ _ _ _ _)
   | (with_reducible exact LeO.refl _)
   | (with_reducible exact LeO.none _)
   | (with_reducible refine LeO.ite ?_ ?_)
   | (with_reducible refine LeO.bind ?_ (fun _ => ?_))
   | exact ih0 _ _ _ _ _ _
   | exact LeO.none _
   | refine LeO.ite ?_ ?_
   | refine LeO.bind ?_ (fun _ => ?_)
theorem gafferref02_Check.mono : ∀ a0 a1 a2 k, LeO (gafferref02_Check.f k a0 a1 a2) (gafferref02_Check.f (k + 1) a0 a1 a2) := by
 intro a0 a1 a2 k
 have ih0 := gafferref02_Check.mono_l k
 unfold gafferref02_Check.f
 repeat' first
   | (with_reducible exact ih0 _ _ _ _ _ _)
   | (with_reducible exact LeO.refl _)
   | (with_reducible exact LeO.none _)
   | (with_reducible refine LeO.ite ?_ ?_)
   | (with_reducible refine LeO.bind ?_ (fun _ => ?_))
   | exact ih0 _ _ _ _ _ _
   | exact LeO.none _
   | refine LeO.ite ?_ ?_
   | refine LeO.bind ?_ (fun _ => ?_)
set_option maxHeartbeats 80000000 in
set_option maxRecDepth 100000 in
theorem gafferref02_Check.calls (k : Nat) (A0_0 : Option Addr) (c0_0 : Nat) (l0_0 : List (S35)) (a0_1 : Bool) (a0_2 : Int) (r : Int) (w : World) (hr0_0 : Kd.C k35 w A0_0 l0_0.length l0_0) (hc0_0 : l0_0.length ≤ c0_0) (h : gafferref02_Check.f k l0_0 a0_1 a0_2 = some r) :
  Calls Try.prog 31 #[.agg #[.slice A0_0 l0_0.length c0_0, .bool a0_1, .int .i64 a0_2]] w fun e w' => e = .returned (.int .i64 r) ∧ Below w.heap.size w w' := by
 have hu24 := Try.underlying24
 have hu35 := Try.underlying35
 have HR0_0 := Aside0.mk hr0_0
 have HC0_0 := Aside0.mk hc0_0
 clear hr0_0 hc0_0
 have HB := Aside0.mk (Below.refl w.heap.size w)
 have H : (if (l0_0.length : Int) > 4096 then (some 10) else (gafferref02_Check.l0 k l0_0 (l0_0.length : Int) 0 l0_0 a0_1 a0_2)) = some r := h
 clear h
 by_cases c2 : (l0_0.length : Int) > 4096
 ·rw [if_pos c2] at H
  have c2b0 : decide (4096 < (l0_0.length : Int)) = true := decide_eq_true c2
  have c2b1 : decide (4096 < l0_0.length) = true := decide_eq_true (by omega)
  clear c2
  obtain rfl := Option.some.inj H
  go_enter Try.func31, Try.ntmps31
  go_wp2_with (first | ((with_reducible refine gate_dst (N := 1) rfl ?_); (try (refine gate_guard (by rfl) ?_; dsimp only)); refine box_event ?hg (N := 1) ?hd (cs := #[.slice A0_0 l0_0.length c0_0, .bool a0_1, .int .i64 a0_2]) (t := 24) ?hr ?_; (case hd => rfl); (case hg => rfl); (case hr => first | (go_simp; done) | (go_simp; rfl)); intro gb273 hg w3 hbox hb; have BK273 := Aside0.mk (hbox); have GW273 := Aside0.mk (bs_0 hg HB); have GE273 := Aside0.mk (bs_0 hg HB); replace HB := Aside0.mk (below_step (bl_ HB) hb); clear hb hbox hg; obtain ⟨hcz4_0, hcz4_1, hcz4_2, hfz4_0, hfz4_1, hfz4_2⟩ := c3_ BK273))
  repeat (go_quiet (first | ((with_reducible refine gate_dst (N := 1) rfl ?_); (try (refine gate_guard (by rfl) ?_; dsimp only)); refine box_event ?hg (N := 1) ?hd (cs := #[.slice A0_0 l0_0.length c0_0, .bool a0_1, .int .i64 a0_2]) (t := 24) ?hr ?_; (case hd => rfl); (case hg => rfl); (case hr => first | (go_simp; done) | (go_simp; rfl)); intro gb273 hg w3 hbox hb; have BK273 := Aside0.mk (hbox); have GW273 := Aside0.mk (bs_0 hg HB); have GE273 := Aside0.mk (bs_0 hg HB); replace HB := Aside0.mk (below_step (bl_ HB) hb); clear hb hbox hg; obtain ⟨hcz4_0, hcz4_1, hcz4_2, hfz4_0, hfz4_1, hfz4_2⟩ := c3_ BK273)); try go_wp2_with (first | ((with_reducible refine gate_dst (N := 1) rfl ?_); (try (refine gate_guard (by rfl) ?_; dsimp only)); refine box_event ?hg (N := 1) ?hd (cs := #[.slice A0_0 l0_0.length c0_0, .bool a0_1, .int .i64 a0_2]) (t := 24) ?hr ?_; (case hd => rfl); (case hg => rfl); (case hr => first | (go_simp; done) | (go_simp; rfl)); intro gb273 hg w3 hbox hb; have BK273 := Aside0.mk (hbox); have GW273 := Aside0.mk (bs_0 hg HB); have GE273 := Aside0.mk (bs_0 hg HB); replace HB := Aside0.mk (below_step (bl_ HB) hb); clear hb hbox hg; obtain ⟨hcz4_0, hcz4_1, hcz4_2, hfz4_0, hfz4_1, hfz4_2⟩ := c3_ BK273)))
  go_ret
  exact ⟨by first | rfl | (simp; done) | (simp [*]; done), bl_1 HB GE273⟩
 ·rw [if_neg c2] at H
  have c2b0 : decide (4096 < (l0_0.length : Int)) = false := decide_eq_false c2
  have c2b1 : decide (4096 < l0_0.length) = false := decide_eq_false (by omega)
  clear c2
  have H' := Aside0.mk H
  clear H
  go_enter Try.func31, Try.ntmps31
  go_wp2_with (first | ((with_reducible refine gate_dst (N := 1) rfl ?_); (try (refine gate_guard (by rfl) ?_; dsimp only)); refine box_event ?hg (N := 1) ?hd (cs := #[.slice A0_0 l0_0.length c0_0, .bool a0_1, .int .i64 a0_2]) (t := 24) ?hr ?_; (case hd => rfl); (case hg => rfl); (case hr => first | (go_simp; done) | (go_simp; rfl)); intro gb273 hg w5 hbox hb; have BK273 := Aside0.mk (hbox); have GW273 := Aside0.mk (bs_0 hg HB); have GE273 := Aside0.mk (bs_0 hg HB); replace HB := Aside0.mk (below_step (bl_ HB) hb); clear hb hbox hg; obtain ⟨hcz6_0, hcz6_1, hcz6_2, hfz6_0, hfz6_1, hfz6_2⟩ := c3_ BK273))
  repeat (go_quiet (first | ((with_reducible refine gate_dst (N := 1) rfl ?_); (try (refine gate_guard (by rfl) ?_; dsimp only)); refine box_event ?hg (N := 1) ?hd (cs := #[.slice A0_0 l0_0.length c0_0, .bool a0_1, .int .i64 a0_2]) (t := 24) ?hr ?_; (case hd => rfl); (case hg => rfl); (case hr => first | (go_simp; done) | (go_simp; rfl)); intro gb273 hg w5 hbox hb; have BK273 := Aside0.mk (hbox); have GW273 := Aside0.mk (bs_0 hg HB); have GE273 := Aside0.mk (bs_0 hg HB); replace HB := Aside0.mk (below_step (bl_ HB) hb); clear hb hbox hg; obtain ⟨hcz6_0, hcz6_1, hcz6_2, hfz6_0, hfz6_1, hfz6_2⟩ := c3_ BK273)); try go_wp2_with (first | ((with_reducible refine gate_dst (N := 1) rfl ?_); (try (refine gate_guard (by rfl) ?_; dsimp only)); refine box_event ?hg (N := 1) ?hd (cs := #[.slice A0_0 l0_0.length c0_0, .bool a0_1, .int .i64 a0_2]) (t := 24) ?hr ?_; (case hd => rfl); (case hg => rfl); (case hr => first | (go_simp; done) | (go_simp; rfl)); intro gb273 hg w5 hbox hb; have BK273 := Aside0.mk (hbox); have GW273 := Aside0.mk (bs_0 hg HB); have GE273 := Aside0.mk (bs_0 hg HB); replace HB := Aside0.mk (below_step (bl_ HB) hb); clear hb hbox hg; obtain ⟨hcz6_0, hcz6_1, hcz6_2, hfz6_0, hfz6_1, hfz6_2⟩ := c3_ BK273)))
  go_loopg [12] k (fun kq v12 w' => ∃ (x12_1 : Int), v12 = .int .i64 x12_1 ∧ Aside0 (gafferref02_Check.l0 kq l0_0 (l0_0.length : Int) x12_1 l0_0 a0_1 a0_2 = some r) ∧ Aside0 (kq ≤ k) ∧ Aside0 (w'.heap[gb273]? = some (.cells #[(.slice A0_0 l0_0.length c0_0), .bool a0_1, .int .i64 a0_2] 24 (0, 0))) ∧ Aside0 (Below w.heap.size w w'))
  case atStart => exact ⟨(0), (by first | rfl | (simp; done) | (simp [*]; done)), H', ⟨Nat.le_refl _⟩, ⟨bk_ BK273⟩, ⟨bl_1 HB GE273⟩⟩
  case round =>
   clear H'
   try clear c2
   try clear c2b0
   try clear c2b1
   try clear p2
   try clear c3
   try clear hcz4_0
   try clear hcz4_1
   try clear hcz4_2
   try clear hcz6_0
   try clear hcz6_1
   try clear hcz6_2
   try clear hfz4_0
   try clear hfz4_1
   try clear hfz4_2
   try clear hfz6_0
   try clear hfz6_1
   try clear hfz6_2
   obtain ⟨x12_1, rfl, HA, HK1, BK273, HB⟩ := hrel
   cases gk with
   | zero => exact absurd HA.out (by simp [gafferref02_Check.l0])
   | succ k1 =>
    have H := HA.out
    clear HA
    simp only [gafferref02_Check.l0] at H
    by_cases c7 : x12_1 < (l0_0.length : Int)
    ·rw [if_pos c7] at H
     have c7b0 : decide (x12_1 < (l0_0.length : Int)) = true := decide_eq_true c7
     clear c7
     by_cases c8 : 0 ≤ x12_1
     ·rw [if_pos c8] at H
      have c8b0 : decide (0 ≤ x12_1) = true := decide_eq_true c8
      clear c8
      by_cases c9 : x12_1 < (l0_0.length : Int)
      ·rw [if_pos c9] at H
       have c9b0 : decide (x12_1 < (l0_0.length : Int)) = true := decide_eq_true c9
       clear c9
       by_cases c10 : ((rd_T35 l0_0 x12_1).f2) < 0
       ·rw [if_pos c10] at H
        have c10b0 : decide (((rd_T35 l0_0 x12_1).f2) < 0) = true := decide_eq_true c10
        clear c10
        obtain rfl := Option.some.inj H
        have p274 : 0 ≤ (x12_1 : Int) := of_decide_eq_true (by first | (with_reducible assumption) | assumption)
        have q274 : x12_1 < (l0_0.length : Int) := of_decide_eq_true (by first | (with_reducible assumption) | assumption)
        obtain ⟨ad274, e274, hx274_0, hx274_1, hx274_2⟩ := at_T35 HR0_0.out x12_1 p274 q274
        cases e274
        replace hx274_0 := (HB.out.cell (World.block_lt_of_cell? w _ hx274_0)).trans hx274_0
        replace hx274_1 := (HB.out.cell (World.block_lt_of_cell? w _ hx274_1)).trans hx274_1
        replace hx274_2 := (HB.out.cell (World.block_lt_of_cell? w _ hx274_2)).trans hx274_2
        replace p274 := eq_true p274
        replace q274 := eq_true q274
        go_wp2_with (first | ((with_reducible refine gate_dst (N := 4) rfl ?_); (try (refine gate_guard (by rfl) ?_; dsimp only)); refine box_event ?hg (N := 4) ?hd (cs := #[.string (⟨#[]⟩ : ByteArray), .string (⟨#[]⟩ : ByteArray), .int .i64 0]) (t := 35) ?hr ?_; (case hd => rfl); (case hg => rfl); (case hr => first | (go_simp; done) | (go_simp; rfl)); intro gb275 hg w11 hbox hb; have BK275 := Aside0.mk (hbox); have GW275 := Aside0.mk (bs_1 hg HB GE273); have GE275 := Aside0.mk (bs_1 hg HB GE273); replace HB := Aside0.mk (below_step (bl_1 HB GE273) hb); have NB273_275 := Aside0.mk (nb_ hg BK273); have NB275_273 := Aside0.mk (nc_ hg BK273); replace BK273 := Aside0.mk (bb_ BK273 hb); clear hb hbox hg; have hnb12 := NB275_273.out; have hnc12 := NB273_275.out; obtain ⟨hcz13_0, hcz13_1, hcz13_2, hfz13_0, hfz13_1, hfz13_2⟩ := c3_ BK275))
        repeat (go_quiet (first | ((with_reducible refine gate_dst (N := 4) rfl ?_); (try (refine gate_guard (by rfl) ?_; dsimp only)); refine box_event ?hg (N := 4) ?hd (cs := #[.string (⟨#[]⟩ : ByteArray), .string (⟨#[]⟩ : ByteArray), .int .i64 0]) (t := 35) ?hr ?_; (case hd => rfl); (case hg => rfl); (case hr => first | (go_simp; done) | (go_simp; rfl)); intro gb275 hg w11 hbox hb; have BK275 := Aside0.mk (hbox); have GW275 := Aside0.mk (bs_1 hg HB GE273); have GE275 := Aside0.mk (bs_1 hg HB GE273); replace HB := Aside0.mk (below_step (bl_1 HB GE273) hb); have NB273_275 := Aside0.mk (nb_ hg BK273); have NB275_273 := Aside0.mk (nc_ hg BK273); replace BK273 := Aside0.mk (bb_ BK273 hb); clear hb hbox hg; have hnb12 := NB275_273.out; have hnc12 := NB273_275.out; obtain ⟨hcz13_0, hcz13_1, hcz13_2, hfz13_0, hfz13_1, hfz13_2⟩ := c3_ BK275)); try go_wp2_with (first | ((with_reducible refine gate_dst (N := 4) rfl ?_); (try (refine gate_guard (by rfl) ?_; dsimp only)); refine box_event ?hg (N := 4) ?hd (cs := #[.string (⟨#[]⟩ : ByteArray), .string (⟨#[]⟩ : ByteArray), .int .i64 0]) (t := 35) ?hr ?_; (case hd => rfl); (case hg => rfl); (case hr => first | (go_simp; done) | (go_simp; rfl)); intro gb275 hg w11 hbox hb; have BK275 := Aside0.mk (hbox); have GW275 := Aside0.mk (bs_1 hg HB GE273); have GE275 := Aside0.mk (bs_1 hg HB GE273); replace HB := Aside0.mk (below_step (bl_1 HB GE273) hb); have NB273_275 := Aside0.mk (nb_ hg BK273); have NB275_273 := Aside0.mk (nc_ hg BK273); replace BK273 := Aside0.mk (bb_ BK273 hb); clear hb hbox hg; have hnb12 := NB275_273.out; have hnc12 := NB273_275.out; obtain ⟨hcz13_0, hcz13_1, hcz13_2, hfz13_0, hfz13_1, hfz13_2⟩ := c3_ BK275)))
        go_ret
        exact ⟨by first | rfl | (simp; done) | (simp [*]; done), bl_2 HB GE273 GE275⟩
       ·rw [if_neg c10] at H
        have c10b0 : decide (((rd_T35 l0_0 x12_1).f2) < 0) = false := decide_eq_false c10
        clear c10
        by_cases c14 : ((rd_T35 l0_0 x12_1).f2) > (((rd_T35 l0_0 x12_1).f1).size : Int)
        ·rw [if_pos c14] at H
         have c14b0 : decide ((((rd_T35 l0_0 x12_1).f1).size : Int) < ((rd_T35 l0_0 x12_1).f2)) = true := decide_eq_true c14
         clear c14
         obtain rfl := Option.some.inj H
         have p274 : 0 ≤ (x12_1 : Int) := of_decide_eq_true (by first | (with_reducible assumption) | assumption)
         have q274 : x12_1 < (l0_0.length : Int) := of_decide_eq_true (by first | (with_reducible assumption) | assumption)
         obtain ⟨ad274, e274, hx274_0, hx274_1, hx274_2⟩ := at_T35 HR0_0.out x12_1 p274 q274
         cases e274
         replace hx274_0 := (HB.out.cell (World.block_lt_of_cell? w _ hx274_0)).trans hx274_0
         replace hx274_1 := (HB.out.cell (World.block_lt_of_cell? w _ hx274_1)).trans hx274_1
         replace hx274_2 := (HB.out.cell (World.block_lt_of_cell? w _ hx274_2)).trans hx274_2
         replace p274 := eq_true p274
         replace q274 := eq_true q274
         go_wp2_with (first | ((with_reducible refine gate_dst (N := 4) rfl ?_); (try (refine gate_guard (by rfl) ?_; dsimp only)); refine box_event ?hg (N := 4) ?hd (cs := #[.string (⟨#[]⟩ : ByteArray), .string (⟨#[]⟩ : ByteArray), .int .i64 0]) (t := 35) ?hr ?_; (case hd => rfl); (case hg => rfl); (case hr => first | (go_simp; done) | (go_simp; rfl)); intro gb275 hg w15 hbox hb; have BK275 := Aside0.mk (hbox); have GW275 := Aside0.mk (bs_1 hg HB GE273); have GE275 := Aside0.mk (bs_1 hg HB GE273); replace HB := Aside0.mk (below_step (bl_1 HB GE273) hb); have NB273_275 := Aside0.mk (nb_ hg BK273); have NB275_273 := Aside0.mk (nc_ hg BK273); replace BK273 := Aside0.mk (bb_ BK273 hb); clear hb hbox hg; have hnb16 := NB275_273.out; have hnc16 := NB273_275.out; obtain ⟨hcz17_0, hcz17_1, hcz17_2, hfz17_0, hfz17_1, hfz17_2⟩ := c3_ BK275))
         repeat (go_quiet (first | ((with_reducible refine gate_dst (N := 4) rfl ?_); (try (refine gate_guard (by rfl) ?_; dsimp only)); refine box_event ?hg (N := 4) ?hd (cs := #[.string (⟨#[]⟩ : ByteArray), .string (⟨#[]⟩ : ByteArray), .int .i64 0]) (t := 35) ?hr ?_; (case hd => rfl); (case hg => rfl); (case hr => first | (go_simp; done) | (go_simp; rfl)); intro gb275 hg w15 hbox hb; have BK275 := Aside0.mk (hbox); have GW275 := Aside0.mk (bs_1 hg HB GE273); have GE275 := Aside0.mk (bs_1 hg HB GE273); replace HB := Aside0.mk (below_step (bl_1 HB GE273) hb); have NB273_275 := Aside0.mk (nb_ hg BK273); have NB275_273 := Aside0.mk (nc_ hg BK273); replace BK273 := Aside0.mk (bb_ BK273 hb); clear hb hbox hg; have hnb16 := NB275_273.out; have hnc16 := NB273_275.out; obtain ⟨hcz17_0, hcz17_1, hcz17_2, hfz17_0, hfz17_1, hfz17_2⟩ := c3_ BK275)); try go_wp2_with (first | ((with_reducible refine gate_dst (N := 4) rfl ?_); (try (refine gate_guard (by rfl) ?_; dsimp only)); refine box_event ?hg (N := 4) ?hd (cs := #[.string (⟨#[]⟩ : ByteArray), .string (⟨#[]⟩ : ByteArray), .int .i64 0]) (t := 35) ?hr ?_; (case hd => rfl); (case hg => rfl); (case hr => first | (go_simp; done) | (go_simp; rfl)); intro gb275 hg w15 hbox hb; have BK275 := Aside0.mk (hbox); have GW275 := Aside0.mk (bs_1 hg HB GE273); have GE275 := Aside0.mk (bs_1 hg HB GE273); replace HB := Aside0.mk (below_step (bl_1 HB GE273) hb); have NB273_275 := Aside0.mk (nb_ hg BK273); have NB275_273 := Aside0.mk (nc_ hg BK273); replace BK273 := Aside0.mk (bb_ BK273 hb); clear hb hbox hg; have hnb16 := NB275_273.out; have hnc16 := NB273_275.out; obtain ⟨hcz17_0, hcz17_1, hcz17_2, hfz17_0, hfz17_1, hfz17_2⟩ := c3_ BK275)))
         go_ret
         exact ⟨by first | rfl | (simp; done) | (simp [*]; done), bl_2 HB GE273 GE275⟩
        ·rw [if_neg c14] at H
         have c14b0 : decide ((((rd_T35 l0_0 x12_1).f1).size : Int) < ((rd_T35 l0_0 x12_1).f2)) = false := decide_eq_false c14
         clear c14
         by_cases c18 : x12_1 > 0
         ·rw [if_pos c18] at H
          have c18b0 : decide (0 < x12_1) = true := decide_eq_true c18
          clear c18
          obtain ⟨ji19, hji19⟩ : ∃ j_ : Int, (wrap64 (x12_1 - 1)) = j_ := ⟨_, rfl⟩
          replace H : (if 0 ≤ (ji19) then (if (ji19) < (l0_0.length : Int) then (if ((Op.bytesLess (((rd_T35 l0_0 (ji19)).f0).toList) (((rd_T35 l0_0 x12_1).f0).toList)) = true) then (gafferref02_Check.l0 k1 l0_0 (l0_0.length : Int) (wrap64 (x12_1 + 1)) l0_0 a0_1 a0_2) else (some 10)) else (none)) else (none)) = some r := by first | (rw [hji19] at H; exact H) | (simp only [hji19] at H ⊢; exact H)
          have hji19w : (IntKind.i64.wrap (x12_1 - 1)) = ji19 := (i64_w _).trans hji19
          by_cases c20 : 0 ≤ (ji19)
          ·rw [if_pos c20] at H
           have c20b0 : decide (0 ≤ (ji19)) = true := decide_eq_true c20
           clear c20
           by_cases c21 : (ji19) < (l0_0.length : Int)
           ·rw [if_pos c21] at H
            have c21b0 : decide ((ji19) < (l0_0.length : Int)) = true := decide_eq_true c21
            clear c21
            by_cases c22 : ((Op.bytesLess (((rd_T35 l0_0 (ji19)).f0).toList) (((rd_T35 l0_0 x12_1).f0).toList)) = true)
            ·rw [if_pos c22] at H
             have c22b0 : (Op.bytesLess (((rd_T35 l0_0 (ji19)).f0).toList) (((rd_T35 l0_0 x12_1).f0).toList)) = true := c22
             clear c22
             have H' := Aside0.mk H
             clear H
             have p274 : 0 ≤ (x12_1 : Int) := of_decide_eq_true (by first | (with_reducible assumption) | assumption)
             have q274 : x12_1 < (l0_0.length : Int) := of_decide_eq_true (by first | (with_reducible assumption) | assumption)
             obtain ⟨ad274, e274, hx274_0, hx274_1, hx274_2⟩ := at_T35 HR0_0.out x12_1 p274 q274
             cases e274
             replace hx274_0 := (HB.out.cell (World.block_lt_of_cell? w _ hx274_0)).trans hx274_0
             replace hx274_1 := (HB.out.cell (World.block_lt_of_cell? w _ hx274_1)).trans hx274_1
             replace hx274_2 := (HB.out.cell (World.block_lt_of_cell? w _ hx274_2)).trans hx274_2
             replace p274 := eq_true p274
             replace q274 := eq_true q274
             go_wp2_with (first | ((with_reducible refine gate_dst (N := 4) rfl ?_); (try (refine gate_guard (by rfl) ?_; dsimp only)); refine box_event ?hg (N := 4) ?hd (cs := #[.string (⟨#[]⟩ : ByteArray), .string (⟨#[]⟩ : ByteArray), .int .i64 0]) (t := 35) ?hr ?_; (case hd => rfl); (case hg => rfl); (case hr => first | (go_simp; done) | (go_simp; rfl)); intro gb275 hg w23 hbox hb; have BK275 := Aside0.mk (hbox); have GW275 := Aside0.mk (bs_1 hg HB GE273); have GE275 := Aside0.mk (bs_1 hg HB GE273); replace HB := Aside0.mk (below_step (bl_1 HB GE273) hb); have NB273_275 := Aside0.mk (nb_ hg BK273); have NB275_273 := Aside0.mk (nc_ hg BK273); replace BK273 := Aside0.mk (bb_ BK273 hb); clear hb hbox hg; have hnb24 := NB275_273.out; have hnc24 := NB273_275.out; obtain ⟨hcz25_0, hcz25_1, hcz25_2, hfz25_0, hfz25_1, hfz25_2⟩ := c3_ BK275; obtain ⟨hcz26_0, hcz26_1, hcz26_2, hfz26_0, hfz26_1, hfz26_2⟩ := c3_ BK273; have p276 : 0 ≤ ((ji19) : Int) := of_decide_eq_true (by first | (with_reducible assumption) | assumption); have q276 : (ji19) < (l0_0.length : Int) := of_decide_eq_true (by first | (with_reducible assumption) | assumption); obtain ⟨ad276, e276, hx276_0, hx276_1, hx276_2⟩ := at_T35 HR0_0.out (ji19) p276 q276; obtain rfl : ad274 = ad276 := (by injection e276); have hn276_0 : ad274.block ≠ gb275 := Nat.ne_of_lt (Nat.lt_of_lt_of_le (by have := World.block_lt_of_cell? _ _ hx276_0; first | rwa [add_block] at this | exact this) GW275.out); have hn276_1 : ad274.block ≠ gb275 := Nat.ne_of_lt (Nat.lt_of_lt_of_le (by have := World.block_lt_of_cell? _ _ hx276_0; first | rwa [add_block] at this | exact this) GW275.out); have hn276_2 : ad274.block ≠ gb275 := Nat.ne_of_lt (Nat.lt_of_lt_of_le (by have := World.block_lt_of_cell? _ _ hx276_0; first | rwa [add_block] at this | exact this) GW275.out); replace hx276_0 := (HB.out.cell (World.block_lt_of_cell? w _ hx276_0)).trans hx276_0; replace hx276_1 := (HB.out.cell (World.block_lt_of_cell? w _ hx276_1)).trans hx276_1; replace hx276_2 := (HB.out.cell (World.block_lt_of_cell? w _ hx276_2)).trans hx276_2; replace hx276_0 := (cf_ (p := ⟨gb275, 0, none⟩) hn276_0 (.string ((rd_T35 l0_0 x12_1).f0))).trans hx276_0; replace hx276_1 := (cf_ (p := ⟨gb275, 0, none⟩) hn276_0 (.string ((rd_T35 l0_0 x12_1).f0))).trans hx276_1; replace hx276_2 := (cf_ (p := ⟨gb275, 0, none⟩) hn276_0 (.string ((rd_T35 l0_0 x12_1).f0))).trans hx276_2; replace hx276_0 := (cf_ (p := ⟨gb275, 1, none⟩) hn276_1 (.string ((rd_T35 l0_0 x12_1).f1))).trans hx276_0; replace hx276_1 := (cf_ (p := ⟨gb275, 1, none⟩) hn276_1 (.string ((rd_T35 l0_0 x12_1).f1))).trans hx276_1; replace hx276_2 := (cf_ (p := ⟨gb275, 1, none⟩) hn276_1 (.string ((rd_T35 l0_0 x12_1).f1))).trans hx276_2; replace hx276_0 := (cf_ (p := ⟨gb275, 2, none⟩) hn276_2 (.int .i64 ((rd_T35 l0_0 x12_1).f2))).trans hx276_0; replace hx276_1 := (cf_ (p := ⟨gb275, 2, none⟩) hn276_2 (.int .i64 ((rd_T35 l0_0 x12_1).f2))).trans hx276_1; replace hx276_2 := (cf_ (p := ⟨gb275, 2, none⟩) hn276_2 (.int .i64 ((rd_T35 l0_0 x12_1).f2))).trans hx276_2; (try have hy276_0 := fun (n_ : Nat) => (show (((((w23.drewN n_).setCell ⟨gb275, 0, none⟩ (.string ((rd_T35 l0_0 x12_1).f0))).setCell ⟨gb275, 1, none⟩ (.string ((rd_T35 l0_0 x12_1).f1))).setCell ⟨gb275, 2, none⟩ (.int .i64 ((rd_T35 l0_0 x12_1).f2)))).cell? _ = some _ from hx276_0)); (try have hy276_1 := fun (n_ : Nat) => (show (((((w23.drewN n_).setCell ⟨gb275, 0, none⟩ (.string ((rd_T35 l0_0 x12_1).f0))).setCell ⟨gb275, 1, none⟩ (.string ((rd_T35 l0_0 x12_1).f1))).setCell ⟨gb275, 2, none⟩ (.int .i64 ((rd_T35 l0_0 x12_1).f2)))).cell? _ = some _ from hx276_1)); (try have hy276_2 := fun (n_ : Nat) => (show (((((w23.drewN n_).setCell ⟨gb275, 0, none⟩ (.string ((rd_T35 l0_0 x12_1).f0))).setCell ⟨gb275, 1, none⟩ (.string ((rd_T35 l0_0 x12_1).f1))).setCell ⟨gb275, 2, none⟩ (.int .i64 ((rd_T35 l0_0 x12_1).f2)))).cell? _ = some _ from hx276_2)); clear hn276_0; clear hn276_1; clear hn276_2; replace p276 := eq_true p276; replace q276 := eq_true q276))
             repeat (go_quiet (first | ((with_reducible refine gate_dst (N := 4) rfl ?_); (try (refine gate_guard (by rfl) ?_; dsimp only)); refine box_event ?hg (N := 4) ?hd (cs := #[.string (⟨#[]⟩ : ByteArray), .string (⟨#[]⟩ : ByteArray), .int .i64 0]) (t := 35) ?hr ?_; (case hd => rfl); (case hg => rfl); (case hr => first | (go_simp; done) | (go_simp; rfl)); intro gb275 hg w23 hbox hb; have BK275 := Aside0.mk (hbox); have GW275 := Aside0.mk (bs_1 hg HB GE273); have GE275 := Aside0.mk (bs_1 hg HB GE273); replace HB := Aside0.mk (below_step (bl_1 HB GE273) hb); have NB273_275 := Aside0.mk (nb_ hg BK273); have NB275_273 := Aside0.mk (nc_ hg BK273); replace BK273 := Aside0.mk (bb_ BK273 hb); clear hb hbox hg; have hnb24 := NB275_273.out; have hnc24 := NB273_275.out; obtain ⟨hcz25_0, hcz25_1, hcz25_2, hfz25_0, hfz25_1, hfz25_2⟩ := c3_ BK275; obtain ⟨hcz26_0, hcz26_1, hcz26_2, hfz26_0, hfz26_1, hfz26_2⟩ := c3_ BK273; have p276 : 0 ≤ ((ji19) : Int) := of_decide_eq_true (by first | (with_reducible assumption) | assumption); have q276 : (ji19) < (l0_0.length : Int) := of_decide_eq_true (by first | (with_reducible assumption) | assumption); obtain ⟨ad276, e276, hx276_0, hx276_1, hx276_2⟩ := at_T35 HR0_0.out (ji19) p276 q276; obtain rfl : ad274 = ad276 := (by injection e276); have hn276_0 : ad274.block ≠ gb275 := Nat.ne_of_lt (Nat.lt_of_lt_of_le (by have := World.block_lt_of_cell? _ _ hx276_0; first | rwa [add_block] at this | exact this) GW275.out); have hn276_1 : ad274.block ≠ gb275 := Nat.ne_of_lt (Nat.lt_of_lt_of_le (by have := World.block_lt_of_cell? _ _ hx276_0; first | rwa [add_block] at this | exact this) GW275.out); have hn276_2 : ad274.block ≠ gb275 := Nat.ne_of_lt (Nat.lt_of_lt_of_le (by have := World.block_lt_of_cell? _ _ hx276_0; first | rwa [add_block] at this | exact this) GW275.out); replace hx276_0 := (HB.out.cell (World.block_lt_of_cell? w _ hx276_0)).trans hx276_0; replace hx276_1 := (HB.out.cell (World.block_lt_of_cell? w _ hx276_1)).trans hx276_1; replace hx276_2 := (HB.out.cell (World.block_lt_of_cell? w _ hx276_2)).trans hx276_2; replace hx276_0 := (cf_ (p := ⟨gb275, 0, none⟩) hn276_0 (.string ((rd_T35 l0_0 x12_1).f0))).trans hx276_0; replace hx276_1 := (cf_ (p := ⟨gb275, 0, none⟩) hn276_0 (.string ((rd_T35 l0_0 x12_1).f0))).trans hx276_1; replace hx276_2 := (cf_ (p := ⟨gb275, 0, none⟩) hn276_0 (.string ((rd_T35 l0_0 x12_1).f0))).trans hx276_2; replace hx276_0 := (cf_ (p := ⟨gb275, 1, none⟩) hn276_1 (.string ((rd_T35 l0_0 x12_1).f1))).trans hx276_0; replace hx276_1 := (cf_ (p := ⟨gb275, 1, none⟩) hn276_1 (.string ((rd_T35 l0_0 x12_1).f1))).trans hx276_1; replace hx276_2 := (cf_ (p := ⟨gb275, 1, none⟩) hn276_1 (.string ((rd_T35 l0_0 x12_1).f1))).trans hx276_2; replace hx276_0 := (cf_ (p := ⟨gb275, 2, none⟩) hn276_2 (.int .i64 ((rd_T35 l0_0 x12_1).f2))).trans hx276_0; replace hx276_1 := (cf_ (p := ⟨gb275, 2, none⟩) hn276_2 (.int .i64 ((rd_T35 l0_0 x12_1).f2))).trans hx276_1; replace hx276_2 := (cf_ (p := ⟨gb275, 2, none⟩) hn276_2 (.int .i64 ((rd_T35 l0_0 x12_1).f2))).trans hx276_2; (try have hy276_0 := fun (n_ : Nat) => (show (((((w23.drewN n_).setCell ⟨gb275, 0, none⟩ (.string ((rd_T35 l0_0 x12_1).f0))).setCell ⟨gb275, 1, none⟩ (.string ((rd_T35 l0_0 x12_1).f1))).setCell ⟨gb275, 2, none⟩ (.int .i64 ((rd_T35 l0_0 x12_1).f2)))).cell? _ = some _ from hx276_0)); (try have hy276_1 := fun (n_ : Nat) => (show (((((w23.drewN n_).setCell ⟨gb275, 0, none⟩ (.string ((rd_T35 l0_0 x12_1).f0))).setCell ⟨gb275, 1, none⟩ (.string ((rd_T35 l0_0 x12_1).f1))).setCell ⟨gb275, 2, none⟩ (.int .i64 ((rd_T35 l0_0 x12_1).f2)))).cell? _ = some _ from hx276_1)); (try have hy276_2 := fun (n_ : Nat) => (show (((((w23.drewN n_).setCell ⟨gb275, 0, none⟩ (.string ((rd_T35 l0_0 x12_1).f0))).setCell ⟨gb275, 1, none⟩ (.string ((rd_T35 l0_0 x12_1).f1))).setCell ⟨gb275, 2, none⟩ (.int .i64 ((rd_T35 l0_0 x12_1).f2)))).cell? _ = some _ from hx276_2)); clear hn276_0; clear hn276_1; clear hn276_2; replace p276 := eq_true p276; replace q276 := eq_true q276)); try go_wp2_with (first | ((with_reducible refine gate_dst (N := 4) rfl ?_); (try (refine gate_guard (by rfl) ?_; dsimp only)); refine box_event ?hg (N := 4) ?hd (cs := #[.string (⟨#[]⟩ : ByteArray), .string (⟨#[]⟩ : ByteArray), .int .i64 0]) (t := 35) ?hr ?_; (case hd => rfl); (case hg => rfl); (case hr => first | (go_simp; done) | (go_simp; rfl)); intro gb275 hg w23 hbox hb; have BK275 := Aside0.mk (hbox); have GW275 := Aside0.mk (bs_1 hg HB GE273); have GE275 := Aside0.mk (bs_1 hg HB GE273); replace HB := Aside0.mk (below_step (bl_1 HB GE273) hb); have NB273_275 := Aside0.mk (nb_ hg BK273); have NB275_273 := Aside0.mk (nc_ hg BK273); replace BK273 := Aside0.mk (bb_ BK273 hb); clear hb hbox hg; have hnb24 := NB275_273.out; have hnc24 := NB273_275.out; obtain ⟨hcz25_0, hcz25_1, hcz25_2, hfz25_0, hfz25_1, hfz25_2⟩ := c3_ BK275; obtain ⟨hcz26_0, hcz26_1, hcz26_2, hfz26_0, hfz26_1, hfz26_2⟩ := c3_ BK273; have p276 : 0 ≤ ((ji19) : Int) := of_decide_eq_true (by first | (with_reducible assumption) | assumption); have q276 : (ji19) < (l0_0.length : Int) := of_decide_eq_true (by first | (with_reducible assumption) | assumption); obtain ⟨ad276, e276, hx276_0, hx276_1, hx276_2⟩ := at_T35 HR0_0.out (ji19) p276 q276; obtain rfl : ad274 = ad276 := (by injection e276); have hn276_0 : ad274.block ≠ gb275 := Nat.ne_of_lt (Nat.lt_of_lt_of_le (by have := World.block_lt_of_cell? _ _ hx276_0; first | rwa [add_block] at this | exact this) GW275.out); have hn276_1 : ad274.block ≠ gb275 := Nat.ne_of_lt (Nat.lt_of_lt_of_le (by have := World.block_lt_of_cell? _ _ hx276_0; first | rwa [add_block] at this | exact this) GW275.out); have hn276_2 : ad274.block ≠ gb275 := Nat.ne_of_lt (Nat.lt_of_lt_of_le (by have := World.block_lt_of_cell? _ _ hx276_0; first | rwa [add_block] at this | exact this) GW275.out); replace hx276_0 := (HB.out.cell (World.block_lt_of_cell? w _ hx276_0)).trans hx276_0; replace hx276_1 := (HB.out.cell (World.block_lt_of_cell? w _ hx276_1)).trans hx276_1; replace hx276_2 := (HB.out.cell (World.block_lt_of_cell? w _ hx276_2)).trans hx276_2; replace hx276_0 := (cf_ (p := ⟨gb275, 0, none⟩) hn276_0 (.string ((rd_T35 l0_0 x12_1).f0))).trans hx276_0; replace hx276_1 := (cf_ (p := ⟨gb275, 0, none⟩) hn276_0 (.string ((rd_T35 l0_0 x12_1).f0))).trans hx276_1; replace hx276_2 := (cf_ (p := ⟨gb275, 0, none⟩) hn276_0 (.string ((rd_T35 l0_0 x12_1).f0))).trans hx276_2; replace hx276_0 := (cf_ (p := ⟨gb275, 1, none⟩) hn276_1 (.string ((rd_T35 l0_0 x12_1).f1))).trans hx276_0; replace hx276_1 := (cf_ (p := ⟨gb275, 1, none⟩) hn276_1 (.string ((rd_T35 l0_0 x12_1).f1))).trans hx276_1; replace hx276_2 := (cf_ (p := ⟨gb275, 1, none⟩) hn276_1 (.string ((rd_T35 l0_0 x12_1).f1))).trans hx276_2; replace hx276_0 := (cf_ (p := ⟨gb275, 2, none⟩) hn276_2 (.int .i64 ((rd_T35 l0_0 x12_1).f2))).trans hx276_0; replace hx276_1 := (cf_ (p := ⟨gb275, 2, none⟩) hn276_2 (.int .i64 ((rd_T35 l0_0 x12_1).f2))).trans hx276_1; replace hx276_2 := (cf_ (p := ⟨gb275, 2, none⟩) hn276_2 (.int .i64 ((rd_T35 l0_0 x12_1).f2))).trans hx276_2; (try have hy276_0 := fun (n_ : Nat) => (show (((((w23.drewN n_).setCell ⟨gb275, 0, none⟩ (.string ((rd_T35 l0_0 x12_1).f0))).setCell ⟨gb275, 1, none⟩ (.string ((rd_T35 l0_0 x12_1).f1))).setCell ⟨gb275, 2, none⟩ (.int .i64 ((rd_T35 l0_0 x12_1).f2)))).cell? _ = some _ from hx276_0)); (try have hy276_1 := fun (n_ : Nat) => (show (((((w23.drewN n_).setCell ⟨gb275, 0, none⟩ (.string ((rd_T35 l0_0 x12_1).f0))).setCell ⟨gb275, 1, none⟩ (.string ((rd_T35 l0_0 x12_1).f1))).setCell ⟨gb275, 2, none⟩ (.int .i64 ((rd_T35 l0_0 x12_1).f2)))).cell? _ = some _ from hx276_1)); (try have hy276_2 := fun (n_ : Nat) => (show (((((w23.drewN n_).setCell ⟨gb275, 0, none⟩ (.string ((rd_T35 l0_0 x12_1).f0))).setCell ⟨gb275, 1, none⟩ (.string ((rd_T35 l0_0 x12_1).f1))).setCell ⟨gb275, 2, none⟩ (.int .i64 ((rd_T35 l0_0 x12_1).f2)))).cell? _ = some _ from hx276_2)); clear hn276_0; clear hn276_1; clear hn276_2; replace p276 := eq_true p276; replace q276 := eq_true q276)))
             go_roundg k1
             case measure => have := HK1.out; omega
             case rel => exact ⟨(wrap64 (x12_1 + 1)), (by first | rfl | (simp; done) | (simp [*]; done)), H', ⟨by have := HK1.out; omega⟩, ⟨by (with_reducible repeat (first | refine blk_drewN ?_ _ | refine blk_drew ?_ | refine blk_alloc ?_ _)); refine blk_far ?_ NB273_275.out _; (with_reducible repeat (first | refine blk_drewN ?_ _ | refine blk_drew ?_ | refine blk_alloc ?_ _)); refine blk_far ?_ NB273_275.out _; (with_reducible repeat (first | refine blk_drewN ?_ _ | refine blk_drew ?_ | refine blk_alloc ?_ _)); refine blk_far ?_ NB273_275.out _; (with_reducible repeat (first | refine blk_drewN ?_ _ | refine blk_drew ?_ | refine blk_alloc ?_ _)); exact BK273.out⟩, ⟨bl_2 HB GE273 GE275⟩⟩
            ·rw [if_neg c22] at H
             have c22b0 : (Op.bytesLess (((rd_T35 l0_0 (ji19)).f0).toList) (((rd_T35 l0_0 x12_1).f0).toList)) = false := by simpa using c22
             clear c22
             obtain rfl := Option.some.inj H
             have p274 : 0 ≤ (x12_1 : Int) := of_decide_eq_true (by first | (with_reducible assumption) | assumption)
             have q274 : x12_1 < (l0_0.length : Int) := of_decide_eq_true (by first | (with_reducible assumption) | assumption)
             obtain ⟨ad274, e274, hx274_0, hx274_1, hx274_2⟩ := at_T35 HR0_0.out x12_1 p274 q274
             cases e274
             replace hx274_0 := (HB.out.cell (World.block_lt_of_cell? w _ hx274_0)).trans hx274_0
             replace hx274_1 := (HB.out.cell (World.block_lt_of_cell? w _ hx274_1)).trans hx274_1
             replace hx274_2 := (HB.out.cell (World.block_lt_of_cell? w _ hx274_2)).trans hx274_2
             replace p274 := eq_true p274
             replace q274 := eq_true q274
             go_wp2_with (first | ((with_reducible refine gate_dst (N := 4) rfl ?_); (try (refine gate_guard (by rfl) ?_; dsimp only)); refine box_event ?hg (N := 4) ?hd (cs := #[.string (⟨#[]⟩ : ByteArray), .string (⟨#[]⟩ : ByteArray), .int .i64 0]) (t := 35) ?hr ?_; (case hd => rfl); (case hg => rfl); (case hr => first | (go_simp; done) | (go_simp; rfl)); intro gb275 hg w27 hbox hb; have BK275 := Aside0.mk (hbox); have GW275 := Aside0.mk (bs_1 hg HB GE273); have GE275 := Aside0.mk (bs_1 hg HB GE273); replace HB := Aside0.mk (below_step (bl_1 HB GE273) hb); have NB273_275 := Aside0.mk (nb_ hg BK273); have NB275_273 := Aside0.mk (nc_ hg BK273); replace BK273 := Aside0.mk (bb_ BK273 hb); clear hb hbox hg; have hnb28 := NB275_273.out; have hnc28 := NB273_275.out; obtain ⟨hcz29_0, hcz29_1, hcz29_2, hfz29_0, hfz29_1, hfz29_2⟩ := c3_ BK275; obtain ⟨hcz30_0, hcz30_1, hcz30_2, hfz30_0, hfz30_1, hfz30_2⟩ := c3_ BK273; have p276 : 0 ≤ ((ji19) : Int) := of_decide_eq_true (by first | (with_reducible assumption) | assumption); have q276 : (ji19) < (l0_0.length : Int) := of_decide_eq_true (by first | (with_reducible assumption) | assumption); obtain ⟨ad276, e276, hx276_0, hx276_1, hx276_2⟩ := at_T35 HR0_0.out (ji19) p276 q276; obtain rfl : ad274 = ad276 := (by injection e276); have hn276_0 : ad274.block ≠ gb275 := Nat.ne_of_lt (Nat.lt_of_lt_of_le (by have := World.block_lt_of_cell? _ _ hx276_0; first | rwa [add_block] at this | exact this) GW275.out); have hn276_1 : ad274.block ≠ gb275 := Nat.ne_of_lt (Nat.lt_of_lt_of_le (by have := World.block_lt_of_cell? _ _ hx276_0; first | rwa [add_block] at this | exact this) GW275.out); have hn276_2 : ad274.block ≠ gb275 := Nat.ne_of_lt (Nat.lt_of_lt_of_le (by have := World.block_lt_of_cell? _ _ hx276_0; first | rwa [add_block] at this | exact this) GW275.out); replace hx276_0 := (HB.out.cell (World.block_lt_of_cell? w _ hx276_0)).trans hx276_0; replace hx276_1 := (HB.out.cell (World.block_lt_of_cell? w _ hx276_1)).trans hx276_1; replace hx276_2 := (HB.out.cell (World.block_lt_of_cell? w _ hx276_2)).trans hx276_2; replace hx276_0 := (cf_ (p := ⟨gb275, 0, none⟩) hn276_0 (.string ((rd_T35 l0_0 x12_1).f0))).trans hx276_0; replace hx276_1 := (cf_ (p := ⟨gb275, 0, none⟩) hn276_0 (.string ((rd_T35 l0_0 x12_1).f0))).trans hx276_1; replace hx276_2 := (cf_ (p := ⟨gb275, 0, none⟩) hn276_0 (.string ((rd_T35 l0_0 x12_1).f0))).trans hx276_2; replace hx276_0 := (cf_ (p := ⟨gb275, 1, none⟩) hn276_1 (.string ((rd_T35 l0_0 x12_1).f1))).trans hx276_0; replace hx276_1 := (cf_ (p := ⟨gb275, 1, none⟩) hn276_1 (.string ((rd_T35 l0_0 x12_1).f1))).trans hx276_1; replace hx276_2 := (cf_ (p := ⟨gb275, 1, none⟩) hn276_1 (.string ((rd_T35 l0_0 x12_1).f1))).trans hx276_2; replace hx276_0 := (cf_ (p := ⟨gb275, 2, none⟩) hn276_2 (.int .i64 ((rd_T35 l0_0 x12_1).f2))).trans hx276_0; replace hx276_1 := (cf_ (p := ⟨gb275, 2, none⟩) hn276_2 (.int .i64 ((rd_T35 l0_0 x12_1).f2))).trans hx276_1; replace hx276_2 := (cf_ (p := ⟨gb275, 2, none⟩) hn276_2 (.int .i64 ((rd_T35 l0_0 x12_1).f2))).trans hx276_2; (try have hy276_0 := fun (n_ : Nat) => (show (((((w27.drewN n_).setCell ⟨gb275, 0, none⟩ (.string ((rd_T35 l0_0 x12_1).f0))).setCell ⟨gb275, 1, none⟩ (.string ((rd_T35 l0_0 x12_1).f1))).setCell ⟨gb275, 2, none⟩ (.int .i64 ((rd_T35 l0_0 x12_1).f2)))).cell? _ = some _ from hx276_0)); (try have hy276_1 := fun (n_ : Nat) => (show (((((w27.drewN n_).setCell ⟨gb275, 0, none⟩ (.string ((rd_T35 l0_0 x12_1).f0))).setCell ⟨gb275, 1, none⟩ (.string ((rd_T35 l0_0 x12_1).f1))).setCell ⟨gb275, 2, none⟩ (.int .i64 ((rd_T35 l0_0 x12_1).f2)))).cell? _ = some _ from hx276_1)); (try have hy276_2 := fun (n_ : Nat) => (show (((((w27.drewN n_).setCell ⟨gb275, 0, none⟩ (.string ((rd_T35 l0_0 x12_1).f0))).setCell ⟨gb275, 1, none⟩ (.string ((rd_T35 l0_0 x12_1).f1))).setCell ⟨gb275, 2, none⟩ (.int .i64 ((rd_T35 l0_0 x12_1).f2)))).cell? _ = some _ from hx276_2)); clear hn276_0; clear hn276_1; clear hn276_2; replace p276 := eq_true p276; replace q276 := eq_true q276))
             repeat (go_quiet (first | ((with_reducible refine gate_dst (N := 4) rfl ?_); (try (refine gate_guard (by rfl) ?_; dsimp only)); refine box_event ?hg (N := 4) ?hd (cs := #[.string (⟨#[]⟩ : ByteArray), .string (⟨#[]⟩ : ByteArray), .int .i64 0]) (t := 35) ?hr ?_; (case hd => rfl); (case hg => rfl); (case hr => first | (go_simp; done) | (go_simp; rfl)); intro gb275 hg w27 hbox hb; have BK275 := Aside0.mk (hbox); have GW275 := Aside0.mk (bs_1 hg HB GE273); have GE275 := Aside0.mk (bs_1 hg HB GE273); replace HB := Aside0.mk (below_step (bl_1 HB GE273) hb); have NB273_275 := Aside0.mk (nb_ hg BK273); have NB275_273 := Aside0.mk (nc_ hg BK273); replace BK273 := Aside0.mk (bb_ BK273 hb); clear hb hbox hg; have hnb28 := NB275_273.out; have hnc28 := NB273_275.out; obtain ⟨hcz29_0, hcz29_1, hcz29_2, hfz29_0, hfz29_1, hfz29_2⟩ := c3_ BK275; obtain ⟨hcz30_0, hcz30_1, hcz30_2, hfz30_0, hfz30_1, hfz30_2⟩ := c3_ BK273; have p276 : 0 ≤ ((ji19) : Int) := of_decide_eq_true (by first | (with_reducible assumption) | assumption); have q276 : (ji19) < (l0_0.length : Int) := of_decide_eq_true (by first | (with_reducible assumption) | assumption); obtain ⟨ad276, e276, hx276_0, hx276_1, hx276_2⟩ := at_T35 HR0_0.out (ji19) p276 q276; obtain rfl : ad274 = ad276 := (by injection e276); have hn276_0 : ad274.block ≠ gb275 := Nat.ne_of_lt (Nat.lt_of_lt_of_le (by have := World.block_lt_of_cell? _ _ hx276_0; first | rwa [add_block] at this | exact this) GW275.out); have hn276_1 : ad274.block ≠ gb275 := Nat.ne_of_lt (Nat.lt_of_lt_of_le (by have := World.block_lt_of_cell? _ _ hx276_0; first | rwa [add_block] at this | exact this) GW275.out); have hn276_2 : ad274.block ≠ gb275 := Nat.ne_of_lt (Nat.lt_of_lt_of_le (by have := World.block_lt_of_cell? _ _ hx276_0; first | rwa [add_block] at this | exact this) GW275.out); replace hx276_0 := (HB.out.cell (World.block_lt_of_cell? w _ hx276_0)).trans hx276_0; replace hx276_1 := (HB.out.cell (World.block_lt_of_cell? w _ hx276_1)).trans hx276_1; replace hx276_2 := (HB.out.cell (World.block_lt_of_cell? w _ hx276_2)).trans hx276_2; replace hx276_0 := (cf_ (p := ⟨gb275, 0, none⟩) hn276_0 (.string ((rd_T35 l0_0 x12_1).f0))).trans hx276_0; replace hx276_1 := (cf_ (p := ⟨gb275, 0, none⟩) hn276_0 (.string ((rd_T35 l0_0 x12_1).f0))).trans hx276_1; replace hx276_2 := (cf_ (p := ⟨gb275, 0, none⟩) hn276_0 (.string ((rd_T35 l0_0 x12_1).f0))).trans hx276_2; replace hx276_0 := (cf_ (p := ⟨gb275, 1, none⟩) hn276_1 (.string ((rd_T35 l0_0 x12_1).f1))).trans hx276_0; replace hx276_1 := (cf_ (p := ⟨gb275, 1, none⟩) hn276_1 (.string ((rd_T35 l0_0 x12_1).f1))).trans hx276_1; replace hx276_2 := (cf_ (p := ⟨gb275, 1, none⟩) hn276_1 (.string ((rd_T35 l0_0 x12_1).f1))).trans hx276_2; replace hx276_0 := (cf_ (p := ⟨gb275, 2, none⟩) hn276_2 (.int .i64 ((rd_T35 l0_0 x12_1).f2))).trans hx276_0; replace hx276_1 := (cf_ (p := ⟨gb275, 2, none⟩) hn276_2 (.int .i64 ((rd_T35 l0_0 x12_1).f2))).trans hx276_1; replace hx276_2 := (cf_ (p := ⟨gb275, 2, none⟩) hn276_2 (.int .i64 ((rd_T35 l0_0 x12_1).f2))).trans hx276_2; (try have hy276_0 := fun (n_ : Nat) => (show (((((w27.drewN n_).setCell ⟨gb275, 0, none⟩ (.string ((rd_T35 l0_0 x12_1).f0))).setCell ⟨gb275, 1, none⟩ (.string ((rd_T35 l0_0 x12_1).f1))).setCell ⟨gb275, 2, none⟩ (.int .i64 ((rd_T35 l0_0 x12_1).f2)))).cell? _ = some _ from hx276_0)); (try have hy276_1 := fun (n_ : Nat) => (show (((((w27.drewN n_).setCell ⟨gb275, 0, none⟩ (.string ((rd_T35 l0_0 x12_1).f0))).setCell ⟨gb275, 1, none⟩ (.string ((rd_T35 l0_0 x12_1).f1))).setCell ⟨gb275, 2, none⟩ (.int .i64 ((rd_T35 l0_0 x12_1).f2)))).cell? _ = some _ from hx276_1)); (try have hy276_2 := fun (n_ : Nat) => (show (((((w27.drewN n_).setCell ⟨gb275, 0, none⟩ (.string ((rd_T35 l0_0 x12_1).f0))).setCell ⟨gb275, 1, none⟩ (.string ((rd_T35 l0_0 x12_1).f1))).setCell ⟨gb275, 2, none⟩ (.int .i64 ((rd_T35 l0_0 x12_1).f2)))).cell? _ = some _ from hx276_2)); clear hn276_0; clear hn276_1; clear hn276_2; replace p276 := eq_true p276; replace q276 := eq_true q276)); try go_wp2_with (first | ((with_reducible refine gate_dst (N := 4) rfl ?_); (try (refine gate_guard (by rfl) ?_; dsimp only)); refine box_event ?hg (N := 4) ?hd (cs := #[.string (⟨#[]⟩ : ByteArray), .string (⟨#[]⟩ : ByteArray), .int .i64 0]) (t := 35) ?hr ?_; (case hd => rfl); (case hg => rfl); (case hr => first | (go_simp; done) | (go_simp; rfl)); intro gb275 hg w27 hbox hb; have BK275 := Aside0.mk (hbox); have GW275 := Aside0.mk (bs_1 hg HB GE273); have GE275 := Aside0.mk (bs_1 hg HB GE273); replace HB := Aside0.mk (below_step (bl_1 HB GE273) hb); have NB273_275 := Aside0.mk (nb_ hg BK273); have NB275_273 := Aside0.mk (nc_ hg BK273); replace BK273 := Aside0.mk (bb_ BK273 hb); clear hb hbox hg; have hnb28 := NB275_273.out; have hnc28 := NB273_275.out; obtain ⟨hcz29_0, hcz29_1, hcz29_2, hfz29_0, hfz29_1, hfz29_2⟩ := c3_ BK275; obtain ⟨hcz30_0, hcz30_1, hcz30_2, hfz30_0, hfz30_1, hfz30_2⟩ := c3_ BK273; have p276 : 0 ≤ ((ji19) : Int) := of_decide_eq_true (by first | (with_reducible assumption) | assumption); have q276 : (ji19) < (l0_0.length : Int) := of_decide_eq_true (by first | (with_reducible assumption) | assumption); obtain ⟨ad276, e276, hx276_0, hx276_1, hx276_2⟩ := at_T35 HR0_0.out (ji19) p276 q276; obtain rfl : ad274 = ad276 := (by injection e276); have hn276_0 : ad274.block ≠ gb275 := Nat.ne_of_lt (Nat.lt_of_lt_of_le (by have := World.block_lt_of_cell? _ _ hx276_0; first | rwa [add_block] at this | exact this) GW275.out); have hn276_1 : ad274.block ≠ gb275 := Nat.ne_of_lt (Nat.lt_of_lt_of_le (by have := World.block_lt_of_cell? _ _ hx276_0; first | rwa [add_block] at this | exact this) GW275.out); have hn276_2 : ad274.block ≠ gb275 := Nat.ne_of_lt (Nat.lt_of_lt_of_le (by have := World.block_lt_of_cell? _ _ hx276_0; first | rwa [add_block] at this | exact this) GW275.out); replace hx276_0 := (HB.out.cell (World.block_lt_of_cell? w _ hx276_0)).trans hx276_0; replace hx276_1 := (HB.out.cell (World.block_lt_of_cell? w _ hx276_1)).trans hx276_1; replace hx276_2 := (HB.out.cell (World.block_lt_of_cell? w _ hx276_2)).trans hx276_2; replace hx276_0 := (cf_ (p := ⟨gb275, 0, none⟩) hn276_0 (.string ((rd_T35 l0_0 x12_1).f0))).trans hx276_0; replace hx276_1 := (cf_ (p := ⟨gb275, 0, none⟩) hn276_0 (.string ((rd_T35 l0_0 x12_1).f0))).trans hx276_1; replace hx276_2 := (cf_ (p := ⟨gb275, 0, none⟩) hn276_0 (.string ((rd_T35 l0_0 x12_1).f0))).trans hx276_2; replace hx276_0 := (cf_ (p := ⟨gb275, 1, none⟩) hn276_1 (.string ((rd_T35 l0_0 x12_1).f1))).trans hx276_0; replace hx276_1 := (cf_ (p := ⟨gb275, 1, none⟩) hn276_1 (.string ((rd_T35 l0_0 x12_1).f1))).trans hx276_1; replace hx276_2 := (cf_ (p := ⟨gb275, 1, none⟩) hn276_1 (.string ((rd_T35 l0_0 x12_1).f1))).trans hx276_2; replace hx276_0 := (cf_ (p := ⟨gb275, 2, none⟩) hn276_2 (.int .i64 ((rd_T35 l0_0 x12_1).f2))).trans hx276_0; replace hx276_1 := (cf_ (p := ⟨gb275, 2, none⟩) hn276_2 (.int .i64 ((rd_T35 l0_0 x12_1).f2))).trans hx276_1; replace hx276_2 := (cf_ (p := ⟨gb275, 2, none⟩) hn276_2 (.int .i64 ((rd_T35 l0_0 x12_1).f2))).trans hx276_2; (try have hy276_0 := fun (n_ : Nat) => (show (((((w27.drewN n_).setCell ⟨gb275, 0, none⟩ (.string ((rd_T35 l0_0 x12_1).f0))).setCell ⟨gb275, 1, none⟩ (.string ((rd_T35 l0_0 x12_1).f1))).setCell ⟨gb275, 2, none⟩ (.int .i64 ((rd_T35 l0_0 x12_1).f2)))).cell? _ = some _ from hx276_0)); (try have hy276_1 := fun (n_ : Nat) => (show (((((w27.drewN n_).setCell ⟨gb275, 0, none⟩ (.string ((rd_T35 l0_0 x12_1).f0))).setCell ⟨gb275, 1, none⟩ (.string ((rd_T35 l0_0 x12_1).f1))).setCell ⟨gb275, 2, none⟩ (.int .i64 ((rd_T35 l0_0 x12_1).f2)))).cell? _ = some _ from hx276_1)); (try have hy276_2 := fun (n_ : Nat) => (show (((((w27.drewN n_).setCell ⟨gb275, 0, none⟩ (.string ((rd_T35 l0_0 x12_1).f0))).setCell ⟨gb275, 1, none⟩ (.string ((rd_T35 l0_0 x12_1).f1))).setCell ⟨gb275, 2, none⟩ (.int .i64 ((rd_T35 l0_0 x12_1).f2)))).cell? _ = some _ from hx276_2)); clear hn276_0; clear hn276_1; clear hn276_2; replace p276 := eq_true p276; replace q276 := eq_true q276)))
             go_ret
             exact ⟨by first | rfl | (simp [errW_none, errW_some] <;> rfl) | (simp only [← hji19]; first | rfl | (simp [errW_none, errW_some] <;> rfl)) | (simp [*, errW_none, errW_some] <;> rfl), bl_2 HB GE273 GE275⟩
           ·rw [if_neg c21] at H
            exact absurd H (by simp)
          ·rw [if_neg c20] at H
           exact absurd H (by simp)
         ·rw [if_neg c18] at H
          have c18b0 : decide (0 < x12_1) = false := decide_eq_false c18
          clear c18
          have H' := Aside0.mk H
          clear H
          have p274 : 0 ≤ (x12_1 : Int) := of_decide_eq_true (by first | (with_reducible assumption) | assumption)
          have q274 : x12_1 < (l0_0.length : Int) := of_decide_eq_true (by first | (with_reducible assumption) | assumption)
          obtain ⟨ad274, e274, hx274_0, hx274_1, hx274_2⟩ := at_T35 HR0_0.out x12_1 p274 q274
          cases e274
          replace hx274_0 := (HB.out.cell (World.block_lt_of_cell? w _ hx274_0)).trans hx274_0
          replace hx274_1 := (HB.out.cell (World.block_lt_of_cell? w _ hx274_1)).trans hx274_1
          replace hx274_2 := (HB.out.cell (World.block_lt_of_cell? w _ hx274_2)).trans hx274_2
          replace p274 := eq_true p274
          replace q274 := eq_true q274
          go_wp2_with (first | ((with_reducible refine gate_dst (N := 4) rfl ?_); (try (refine gate_guard (by rfl) ?_; dsimp only)); refine box_event ?hg (N := 4) ?hd (cs := #[.string (⟨#[]⟩ : ByteArray), .string (⟨#[]⟩ : ByteArray), .int .i64 0]) (t := 35) ?hr ?_; (case hd => rfl); (case hg => rfl); (case hr => first | (go_simp; done) | (go_simp; rfl)); intro gb275 hg w31 hbox hb; have BK275 := Aside0.mk (hbox); have GW275 := Aside0.mk (bs_1 hg HB GE273); have GE275 := Aside0.mk (bs_1 hg HB GE273); replace HB := Aside0.mk (below_step (bl_1 HB GE273) hb); have NB273_275 := Aside0.mk (nb_ hg BK273); have NB275_273 := Aside0.mk (nc_ hg BK273); replace BK273 := Aside0.mk (bb_ BK273 hb); clear hb hbox hg; have hnb32 := NB275_273.out; have hnc32 := NB273_275.out; obtain ⟨hcz33_0, hcz33_1, hcz33_2, hfz33_0, hfz33_1, hfz33_2⟩ := c3_ BK275))
          repeat (go_quiet (first | ((with_reducible refine gate_dst (N := 4) rfl ?_); (try (refine gate_guard (by rfl) ?_; dsimp only)); refine box_event ?hg (N := 4) ?hd (cs := #[.string (⟨#[]⟩ : ByteArray), .string (⟨#[]⟩ : ByteArray), .int .i64 0]) (t := 35) ?hr ?_; (case hd => rfl); (case hg => rfl); (case hr => first | (go_simp; done) | (go_simp; rfl)); intro gb275 hg w31 hbox hb; have BK275 := Aside0.mk (hbox); have GW275 := Aside0.mk (bs_1 hg HB GE273); have GE275 := Aside0.mk (bs_1 hg HB GE273); replace HB := Aside0.mk (below_step (bl_1 HB GE273) hb); have NB273_275 := Aside0.mk (nb_ hg BK273); have NB275_273 := Aside0.mk (nc_ hg BK273); replace BK273 := Aside0.mk (bb_ BK273 hb); clear hb hbox hg; have hnb32 := NB275_273.out; have hnc32 := NB273_275.out; obtain ⟨hcz33_0, hcz33_1, hcz33_2, hfz33_0, hfz33_1, hfz33_2⟩ := c3_ BK275)); try go_wp2_with (first | ((with_reducible refine gate_dst (N := 4) rfl ?_); (try (refine gate_guard (by rfl) ?_; dsimp only)); refine box_event ?hg (N := 4) ?hd (cs := #[.string (⟨#[]⟩ : ByteArray), .string (⟨#[]⟩ : ByteArray), .int .i64 0]) (t := 35) ?hr ?_; (case hd => rfl); (case hg => rfl); (case hr => first | (go_simp; done) | (go_simp; rfl)); intro gb275 hg w31 hbox hb; have BK275 := Aside0.mk (hbox); have GW275 := Aside0.mk (bs_1 hg HB GE273); have GE275 := Aside0.mk (bs_1 hg HB GE273); replace HB := Aside0.mk (below_step (bl_1 HB GE273) hb); have NB273_275 := Aside0.mk (nb_ hg BK273); have NB275_273 := Aside0.mk (nc_ hg BK273); replace BK273 := Aside0.mk (bb_ BK273 hb); clear hb hbox hg; have hnb32 := NB275_273.out; have hnc32 := NB273_275.out; obtain ⟨hcz33_0, hcz33_1, hcz33_2, hfz33_0, hfz33_1, hfz33_2⟩ := c3_ BK275)))
          go_roundg k1
          case measure => have := HK1.out; omega
          case rel => exact ⟨(wrap64 (x12_1 + 1)), (by first | rfl | (simp; done) | (simp [*]; done)), H', ⟨by have := HK1.out; omega⟩, ⟨by (with_reducible repeat (first | refine blk_drewN ?_ _ | refine blk_drew ?_ | refine blk_alloc ?_ _)); refine blk_far ?_ NB273_275.out _; (with_reducible repeat (first | refine blk_drewN ?_ _ | refine blk_drew ?_ | refine blk_alloc ?_ _)); refine blk_far ?_ NB273_275.out _; (with_reducible repeat (first | refine blk_drewN ?_ _ | refine blk_drew ?_ | refine blk_alloc ?_ _)); refine blk_far ?_ NB273_275.out _; (with_reducible repeat (first | refine blk_drewN ?_ _ | refine blk_drew ?_ | refine blk_alloc ?_ _)); exact BK273.out⟩, ⟨bl_2 HB GE273 GE275⟩⟩
      ·rw [if_neg c9] at H
       exact absurd H (by simp)
     ·rw [if_neg c8] at H
      exact absurd H (by simp)
    ·rw [if_neg c7] at H
     have c7b0 : decide (x12_1 < (l0_0.length : Int)) = false := decide_eq_false c7
     clear c7
     obtain rfl := Option.some.inj H
     go_wp2
     repeat (go_quiet (fail); try go_wp2)
     go_ret
     exact ⟨by first | rfl | (simp; done) | (simp [*]; done), bl_1 HB GE273⟩

end Go.Proofs.Ytpdacpopkegecaa.PA
