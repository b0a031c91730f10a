-- Written for this claim by a program of this session. Lean checks it.
import Derived.Test.YtpigjmjbfpipnaaPEx0
import Derived.Test.YtpigjmjbfpipnaaPEx2
import Derived.Test.YtpigjmjbfpipnaaPEx3
import Derived.Test.YtpigjmjbfpipnaaPEx4
import Derived.Test.YtpigjmjbfpipnaaPEx7
import Derived.Test.YtpigjmjbfpipnaaPEx10
namespace Go.Proofs.Ytpigjmjbfpipnaa.PE
open Go.RowKit Go.Proofs.YtpigjmjbfpipnaaW.PrintWords Go.Proofs.YtpigjmjbfpipnaaW.PrintLast Go.Proofs.YtpigjmjbfpipnaaW.PrintMore Go.Proofs.Ytpigjmjbfpipnaa.Sh Go.Proofs.Ytpigjmjbfpipnaa.Op
attribute [local go_sem] max2_int min2_int max_two min_two max_three min_three max_four min_four   -- for this text's walks alone
set_option linter.unusedVariables false
set_option maxHeartbeats 80000000
set_option maxRecDepth 100000
set_option linter.unusedSimpArgs false

/-! ### disk_Drop: function 67 -/
def disk_Drop.f (k : Nat) (l0_0 : List (S71)) (a0_1 : Bool) (a0_2 : Int) (a1 : ByteArray) : Option ((List (S71)) × Bool × Int × Int) := (disk_done.f k l0_0 a0_1 a0_2 4 a1 (⟨#[]⟩ : ByteArray) (⟨#[]⟩ : ByteArray) 0).bind fun bt284 => (some (bt284.1, bt284.2.1, bt284.2.2.1, bt284.2.2.2))
theorem disk_Drop.mono : ∀ a0 a1 a2 a3 k, LeO (disk_Drop.f k a0 a1 a2 a3) (disk_Drop.f (k + 1) a0 a1 a2 a3) := by
 intro a0 a1 a2 a3 k
 unfold disk_Drop.f
 repeat' with_reducible first | exact disk_done.mono _ _ _ _ _ _ _ _ _ | exact LeO.refl _ | exact LeO.none _ | refine LeO.ite ?_ ?_ | refine LeO.bind ?_ (fun _ => ?_)
theorem disk_Drop.calls (k : Nat) (A0_0 : Option Addr) (c0_0 : Nat) (l0_0 : List (S71)) (a0_1 : Bool) (a0_2 : Int) (a1 : ByteArray) (r1 : List (S71)) (r2 : Bool) (r3 : Int) (r4 : Int) (w : World) (hr0_0 : Kd.C k71 w A0_0 l0_0.length l0_0) (hc0_0 : l0_0.length ≤ c0_0) (h : disk_Drop.f k l0_0 a0_1 a0_2 a1 = some (r1, r2, r3, r4)) :
  Calls Try.prog 67 #[.agg #[.slice A0_0 l0_0.length c0_0, .bool a0_1, .int .i64 a0_2], .string a1] w fun e w' => ∃ v0_ : Value, e = .returned (.tuple #[.agg #[v0_, .bool r2, .int .i64 r3], .int .i64 r4]) ∧ Kd.R k71 71 w' w.heap.size (fun _ => True) v0_ r1 ∧ Below w.heap.size w w' := by
 have hu24 := Try.underlying24
 have hu115 := Try.underlying115
 have HR0_0 := a_ hr0_0
 have HC0_0 := a_ hc0_0
 clear hr0_0 hc0_0
 have HB := a_ (Below.refl w.heap.size w)
 have H : ((disk_done.f k l0_0 a0_1 a0_2 4 a1 (⟨#[]⟩ : ByteArray) (⟨#[]⟩ : ByteArray) 0).bind fun bt284 => (some (bt284.1, bt284.2.1, bt284.2.2.1, bt284.2.2.2))) = some (r1, r2, r3, r4) := h
 clear h
 obtain ⟨⟨t284, t287, t288, t289⟩, A30, H⟩ := Option.bind_eq_some_iff.mp H
 try dsimp only at H
 have A3 := a_ A30
 clear A30
 simp only [Option.some.injEq, Prod.mk.injEq] at H
 obtain ⟨rfl, rfl, rfl, rfl⟩ := H
 go_enter Try.func67, Try.ntmps67
 go_wp2_with (first | ((with_reducible refine gd_ 2 ?_); refine bx_ 2 #[.slice A0_0 l0_0.length c0_0, .bool a0_1, .int .i64 a0_2] 24 ?_; intro gb282 hg w4 hbox hb; have BK282 := a_ (hbox); have GE282 := a_ (bs_0 hg HB); replace HB := hB_ (bl_ HB) hb; clear hb hbox hg) | ((with_reducible refine gd_ 4 ?_); refine bx_ 4 #[.slice none 0 0, .bool false, .int .i64 0] 24 ?_; intro gb283 hg w5 hbox hb; have BK283 := a_ (hbox); have GE283 := a_ (bs_1 hg HB GE282); replace HB := hB_ (bl_1 HB GE282) hb; have NB282_283 := nB_ hg BK282; have NB283_282 := nC_ hg BK282; replace BK282 := bB_ BK282 hb; clear hb hbox hg; have hnb6 := NB282_283.out; have hnc6 := NB283_282.out; obtain ⟨hcz7_0, hcz7_1, hcz7_2, hfz7_0, hfz7_1, hfz7_2⟩ := c3_ BK282) | ((with_reducible refine gk_ 96 ?_); refine gl_ (some 9) Try.func96 #[.agg #[.slice A0_0 l0_0.length c0_0, .bool a0_1, .int .i64 a0_2], .agg #[.int .u8 4, .string a1, .string (⟨#[]⟩ : ByteArray), .string (⟨#[]⟩ : ByteArray), .int .i64 0]] ?_; (with_reducible refine (disk_done.calls k _ _ l0_0 a0_1 a0_2 4 a1 (⟨#[]⟩ : ByteArray) (⟨#[]⟩ : ByteArray) 0 t284 t287 t288 t289 _ ?side1 ?side2 A3.out).mono ?_); (case side1 => exact cl_ (Kd.C_below HR0_0.out HB.out)); (case side2 => exact HC0_0.out); rintro e w8 ⟨v285, rfl, ho0, hb⟩; refine ⟨_, rfl, ?_⟩; have HO286 := a_ (Kd.R_lower ho0 (below_size (bl_2 HB GE282 GE283))); replace BK282 := bB_ BK282 hb; replace BK283 := bB_ BK283 hb; replace HB := hB_ (bl_2 HB GE282 GE283) hb; (try clear hb); (try clear ho0); obtain ⟨Ao9, co9, eo9⟩ := Kd.R_slice HO286.out; subst eo9; obtain ⟨hcz10_0, hcz10_1, hcz10_2, hfz10_0, hfz10_1, hfz10_2⟩ := c3_ BK283))
 refine bodyPost_ret (results_ct rfl _ _ gb283 24 #[.slice Ao9 t284.length co9, .bool t287, .int .i64 t288] (0, 0) _ rfl (bp_0 BK283) Try.underlying24 rfl (by kernel_rfl)) rfl ?_
 exact ⟨_, fz_, by refine rq_ ?_; exact Kd.R_mono (Kd.R_far (p := ⟨gb283, 2, none⟩) (Kd.R_far (p := ⟨gb283, 1, none⟩) (Kd.R_far (p := ⟨gb283, 0, none⟩) (Kd.R_types HO286.out BK283.out (by decide)) (fun _ hk => hk.2) (.slice Ao9 t284.length co9)) (fun _ hk => hk.2) (.bool t287)) (fun _ hk => hk.2) (.int .i64 t288)) (fun _ hk => trivial), bl_2 HB GE282 GE283⟩

/-! ### disk_Add: function 70 -/
def disk_Add.f (k : Nat) (l0_0 : List (S71)) (a0_1 : Bool) (a0_2 : Int) (a1 : ByteArray) (a2 : ByteArray) : Option ((List (S71)) × Bool × Int × Int) := (disk_done.f k l0_0 a0_1 a0_2 0 a1 (⟨#[]⟩ : ByteArray) a2 0).bind fun bt292 => (some (bt292.1, bt292.2.1, bt292.2.2.1, bt292.2.2.2))
theorem disk_Add.mono : ∀ a0 a1 a2 a3 a4 k, LeO (disk_Add.f k a0 a1 a2 a3 a4) (disk_Add.f (k + 1) a0 a1 a2 a3 a4) := by
 intro a0 a1 a2 a3 a4 k
 unfold disk_Add.f
 repeat' with_reducible first | exact disk_done.mono _ _ _ _ _ _ _ _ _ | exact LeO.refl _ | exact LeO.none _ | refine LeO.ite ?_ ?_ | refine LeO.bind ?_ (fun _ => ?_)
theorem disk_Add.calls (k : Nat) (A0_0 : Option Addr) (c0_0 : Nat) (l0_0 : List (S71)) (a0_1 : Bool) (a0_2 : Int) (a1 : ByteArray) (a2 : ByteArray) (r1 : List (S71)) (r2 : Bool) (r3 : Int) (r4 : Int) (w : World) (hr0_0 : Kd.C k71 w A0_0 l0_0.length l0_0) (hc0_0 : l0_0.length ≤ c0_0) (h : disk_Add.f k l0_0 a0_1 a0_2 a1 a2 = some (r1, r2, r3, r4)) :
  Calls Try.prog 70 #[.agg #[.slice A0_0 l0_0.length c0_0, .bool a0_1, .int .i64 a0_2], .string a1, .string a2] w fun e w' => ∃ v0_ : Value, e = .returned (.tuple #[.agg #[v0_, .bool r2, .int .i64 r3], .int .i64 r4]) ∧ Kd.R k71 71 w' w.heap.size (fun _ => True) v0_ r1 ∧ Below w.heap.size w w' := by
 have hu24 := Try.underlying24
 have hu115 := Try.underlying115
 have HR0_0 := a_ hr0_0
 have HC0_0 := a_ hc0_0
 clear hr0_0 hc0_0
 have HB := a_ (Below.refl w.heap.size w)
 have H : ((disk_done.f k l0_0 a0_1 a0_2 0 a1 (⟨#[]⟩ : ByteArray) a2 0).bind fun bt292 => (some (bt292.1, bt292.2.1, bt292.2.2.1, bt292.2.2.2))) = some (r1, r2, r3, r4) := h
 clear h
 obtain ⟨⟨t292, t295, t296, t297⟩, A40, H⟩ := Option.bind_eq_some_iff.mp H
 try dsimp only at H
 have A4 := a_ A40
 clear A40
 simp only [Option.some.injEq, Prod.mk.injEq] at H
 obtain ⟨rfl, rfl, rfl, rfl⟩ := H
 go_enter Try.func70, Try.ntmps70
 go_wp2_with (first | ((with_reducible refine gd_ 3 ?_); refine bx_ 3 #[.slice A0_0 l0_0.length c0_0, .bool a0_1, .int .i64 a0_2] 24 ?_; intro gb290 hg w5 hbox hb; have BK290 := a_ (hbox); have GE290 := a_ (bs_0 hg HB); replace HB := hB_ (bl_ HB) hb; clear hb hbox hg) | ((with_reducible refine gd_ 6 ?_); refine bx_ 6 #[.slice none 0 0, .bool false, .int .i64 0] 24 ?_; intro gb291 hg w6 hbox hb; have BK291 := a_ (hbox); have GE291 := a_ (bs_1 hg HB GE290); replace HB := hB_ (bl_1 HB GE290) hb; have NB290_291 := nB_ hg BK290; have NB291_290 := nC_ hg BK290; replace BK290 := bB_ BK290 hb; clear hb hbox hg; have hnb7 := NB290_291.out; have hnc7 := NB291_290.out; obtain ⟨hcz8_0, hcz8_1, hcz8_2, hfz8_0, hfz8_1, hfz8_2⟩ := c3_ BK290) | ((with_reducible refine gk_ 96 ?_); refine gl_ (some 12) Try.func96 #[.agg #[.slice A0_0 l0_0.length c0_0, .bool a0_1, .int .i64 a0_2], .agg #[.int .u8 0, .string a1, .string (⟨#[]⟩ : ByteArray), .string a2, .int .i64 0]] ?_; (with_reducible refine (disk_done.calls k _ _ l0_0 a0_1 a0_2 0 a1 (⟨#[]⟩ : ByteArray) a2 0 t292 t295 t296 t297 _ ?side1 ?side2 A4.out).mono ?_); (case side1 => exact cl_ (Kd.C_below HR0_0.out HB.out)); (case side2 => exact HC0_0.out); rintro e w9 ⟨v293, rfl, ho0, hb⟩; refine ⟨_, rfl, ?_⟩; have HO294 := a_ (Kd.R_lower ho0 (below_size (bl_2 HB GE290 GE291))); replace BK290 := bB_ BK290 hb; replace BK291 := bB_ BK291 hb; replace HB := hB_ (bl_2 HB GE290 GE291) hb; (try clear hb); (try clear ho0); obtain ⟨Ao10, co10, eo10⟩ := Kd.R_slice HO294.out; subst eo10; obtain ⟨hcz11_0, hcz11_1, hcz11_2, hfz11_0, hfz11_1, hfz11_2⟩ := c3_ BK291))
 refine bodyPost_ret (results_ct rfl _ _ gb291 24 #[.slice Ao10 t292.length co10, .bool t295, .int .i64 t296] (0, 0) _ rfl (bp_0 BK291) Try.underlying24 rfl (by kernel_rfl)) rfl ?_
 exact ⟨_, fz_, by refine rq_ ?_; exact Kd.R_mono (Kd.R_far (p := ⟨gb291, 2, none⟩) (Kd.R_far (p := ⟨gb291, 1, none⟩) (Kd.R_far (p := ⟨gb291, 0, none⟩) (Kd.R_types HO294.out BK291.out (by decide)) (fun _ hk => hk.2) (.slice Ao10 t292.length co10)) (fun _ hk => hk.2) (.bool t295)) (fun _ hk => hk.2) (.int .i64 t296)) (fun _ hk => trivial), bl_2 HB GE290 GE291⟩

-- NOT PRINTED: function 69 (hard_Put_1)

/-! ### disk_Sync: function 72 -/
def disk_Sync.f (k : Nat) (l0_0 : List (S71)) (a0_1 : Bool) (a0_2 : Int) (a1 : ByteArray) : Option ((List (S71)) × Bool × Int × Int) := (disk_done.f k l0_0 a0_1 a0_2 1 a1 (⟨#[]⟩ : ByteArray) (⟨#[]⟩ : ByteArray) 0).bind fun bt302 => (some (bt302.1, bt302.2.1, bt302.2.2.1, bt302.2.2.2))
theorem disk_Sync.mono : ∀ a0 a1 a2 a3 k, LeO (disk_Sync.f k a0 a1 a2 a3) (disk_Sync.f (k + 1) a0 a1 a2 a3) := by
 intro a0 a1 a2 a3 k
 unfold disk_Sync.f
 repeat' with_reducible first | exact disk_done.mono _ _ _ _ _ _ _ _ _ | exact LeO.refl _ | exact LeO.none _ | refine LeO.ite ?_ ?_ | refine LeO.bind ?_ (fun _ => ?_)
theorem disk_Sync.calls (k : Nat) (A0_0 : Option Addr) (c0_0 : Nat) (l0_0 : List (S71)) (a0_1 : Bool) (a0_2 : Int) (a1 : ByteArray) (r1 : List (S71)) (r2 : Bool) (r3 : Int) (r4 : Int) (w : World) (hr0_0 : Kd.C k71 w A0_0 l0_0.length l0_0) (hc0_0 : l0_0.length ≤ c0_0) (h : disk_Sync.f k l0_0 a0_1 a0_2 a1 = some (r1, r2, r3, r4)) :
  Calls Try.prog 72 #[.agg #[.slice A0_0 l0_0.length c0_0, .bool a0_1, .int .i64 a0_2], .string a1] w fun e w' => ∃ v0_ : Value, e = .returned (.tuple #[.agg #[v0_, .bool r2, .int .i64 r3], .int .i64 r4]) ∧ Kd.R k71 71 w' w.heap.size (fun _ => True) v0_ r1 ∧ Below w.heap.size w w' := by
 have hu24 := Try.underlying24
 have hu115 := Try.underlying115
 have HR0_0 := a_ hr0_0
 have HC0_0 := a_ hc0_0
 clear hr0_0 hc0_0
 have HB := a_ (Below.refl w.heap.size w)
 have H : ((disk_done.f k l0_0 a0_1 a0_2 1 a1 (⟨#[]⟩ : ByteArray) (⟨#[]⟩ : ByteArray) 0).bind fun bt302 => (some (bt302.1, bt302.2.1, bt302.2.2.1, bt302.2.2.2))) = some (r1, r2, r3, r4) := h
 clear h
 obtain ⟨⟨t302, t305, t306, t307⟩, A30, H⟩ := Option.bind_eq_some_iff.mp H
 try dsimp only at H
 have A3 := a_ A30
 clear A30
 simp only [Option.some.injEq, Prod.mk.injEq] at H
 obtain ⟨rfl, rfl, rfl, rfl⟩ := H
 go_enter Try.func72, Try.ntmps72
 go_wp2_with (first | ((with_reducible refine gd_ 2 ?_); refine bx_ 2 #[.slice A0_0 l0_0.length c0_0, .bool a0_1, .int .i64 a0_2] 24 ?_; intro gb300 hg w4 hbox hb; have BK300 := a_ (hbox); have GE300 := a_ (bs_0 hg HB); replace HB := hB_ (bl_ HB) hb; clear hb hbox hg) | ((with_reducible refine gd_ 4 ?_); refine bx_ 4 #[.slice none 0 0, .bool false, .int .i64 0] 24 ?_; intro gb301 hg w5 hbox hb; have BK301 := a_ (hbox); have GE301 := a_ (bs_1 hg HB GE300); replace HB := hB_ (bl_1 HB GE300) hb; have NB300_301 := nB_ hg BK300; have NB301_300 := nC_ hg BK300; replace BK300 := bB_ BK300 hb; clear hb hbox hg; have hnb6 := NB300_301.out; have hnc6 := NB301_300.out; obtain ⟨hcz7_0, hcz7_1, hcz7_2, hfz7_0, hfz7_1, hfz7_2⟩ := c3_ BK300) | ((with_reducible refine gk_ 96 ?_); refine gl_ (some 9) Try.func96 #[.agg #[.slice A0_0 l0_0.length c0_0, .bool a0_1, .int .i64 a0_2], .agg #[.int .u8 1, .string a1, .string (⟨#[]⟩ : ByteArray), .string (⟨#[]⟩ : ByteArray), .int .i64 0]] ?_; (with_reducible refine (disk_done.calls k _ _ l0_0 a0_1 a0_2 1 a1 (⟨#[]⟩ : ByteArray) (⟨#[]⟩ : ByteArray) 0 t302 t305 t306 t307 _ ?side1 ?side2 A3.out).mono ?_); (case side1 => exact cl_ (Kd.C_below HR0_0.out HB.out)); (case side2 => exact HC0_0.out); rintro e w8 ⟨v303, rfl, ho0, hb⟩; refine ⟨_, rfl, ?_⟩; have HO304 := a_ (Kd.R_lower ho0 (below_size (bl_2 HB GE300 GE301))); replace BK300 := bB_ BK300 hb; replace BK301 := bB_ BK301 hb; replace HB := hB_ (bl_2 HB GE300 GE301) hb; (try clear hb); (try clear ho0); obtain ⟨Ao9, co9, eo9⟩ := Kd.R_slice HO304.out; subst eo9; obtain ⟨hcz10_0, hcz10_1, hcz10_2, hfz10_0, hfz10_1, hfz10_2⟩ := c3_ BK301))
 refine bodyPost_ret (results_ct rfl _ _ gb301 24 #[.slice Ao9 t302.length co9, .bool t305, .int .i64 t306] (0, 0) _ rfl (bp_0 BK301) Try.underlying24 rfl (by kernel_rfl)) rfl ?_
 exact ⟨_, fz_, by refine rq_ ?_; exact Kd.R_mono (Kd.R_far (p := ⟨gb301, 2, none⟩) (Kd.R_far (p := ⟨gb301, 1, none⟩) (Kd.R_far (p := ⟨gb301, 0, none⟩) (Kd.R_types HO304.out BK301.out (by decide)) (fun _ hk => hk.2) (.slice Ao9 t302.length co9)) (fun _ hk => hk.2) (.bool t305)) (fun _ hk => hk.2) (.int .i64 t306)) (fun _ hk => trivial), bl_2 HB GE300 GE301⟩

-- NOT PRINTED: function 71 (hard_Put_2)

/-! ### disk_Swap: function 74 -/
def disk_Swap.f (k : Nat) (l0_0 : List (S71)) (a0_1 : Bool) (a0_2 : Int) (a1 : ByteArray) (a2 : ByteArray) : Option ((List (S71)) × Bool × Int × Int) := (disk_done.f k l0_0 a0_1 a0_2 3 a1 a2 (⟨#[]⟩ : ByteArray) 0).bind fun bt312 => (some (bt312.1, bt312.2.1, bt312.2.2.1, bt312.2.2.2))
theorem disk_Swap.mono : ∀ a0 a1 a2 a3 a4 k, LeO (disk_Swap.f k a0 a1 a2 a3 a4) (disk_Swap.f (k + 1) a0 a1 a2 a3 a4) := by
 intro a0 a1 a2 a3 a4 k
 unfold disk_Swap.f
 repeat' with_reducible first | exact disk_done.mono _ _ _ _ _ _ _ _ _ | exact LeO.refl _ | exact LeO.none _ | refine LeO.ite ?_ ?_ | refine LeO.bind ?_ (fun _ => ?_)
theorem disk_Swap.calls (k : Nat) (A0_0 : Option Addr) (c0_0 : Nat) (l0_0 : List (S71)) (a0_1 : Bool) (a0_2 : Int) (a1 : ByteArray) (a2 : ByteArray) (r1 : List (S71)) (r2 : Bool) (r3 : Int) (r4 : Int) (w : World) (hr0_0 : Kd.C k71 w A0_0 l0_0.length l0_0) (hc0_0 : l0_0.length ≤ c0_0) (h : disk_Swap.f k l0_0 a0_1 a0_2 a1 a2 = some (r1, r2, r3, r4)) :
  Calls Try.prog 74 #[.agg #[.slice A0_0 l0_0.length c0_0, .bool a0_1, .int .i64 a0_2], .string a1, .string a2] w fun e w' => ∃ v0_ : Value, e = .returned (.tuple #[.agg #[v0_, .bool r2, .int .i64 r3], .int .i64 r4]) ∧ Kd.R k71 71 w' w.heap.size (fun _ => True) v0_ r1 ∧ Below w.heap.size w w' := by
 have hu24 := Try.underlying24
 have hu115 := Try.underlying115
 have HR0_0 := a_ hr0_0
 have HC0_0 := a_ hc0_0
 clear hr0_0 hc0_0
 have HB := a_ (Below.refl w.heap.size w)
 have H : ((disk_done.f k l0_0 a0_1 a0_2 3 a1 a2 (⟨#[]⟩ : ByteArray) 0).bind fun bt312 => (some (bt312.1, bt312.2.1, bt312.2.2.1, bt312.2.2.2))) = some (r1, r2, r3, r4) := h
 clear h
 obtain ⟨⟨t312, t315, t316, t317⟩, A40, H⟩ := Option.bind_eq_some_iff.mp H
 try dsimp only at H
 have A4 := a_ A40
 clear A40
 simp only [Option.some.injEq, Prod.mk.injEq] at H
 obtain ⟨rfl, rfl, rfl, rfl⟩ := H
 go_enter Try.func74, Try.ntmps74
 go_wp2_with (first | ((with_reducible refine gd_ 3 ?_); refine bx_ 3 #[.slice A0_0 l0_0.length c0_0, .bool a0_1, .int .i64 a0_2] 24 ?_; intro gb310 hg w5 hbox hb; have BK310 := a_ (hbox); have GE310 := a_ (bs_0 hg HB); replace HB := hB_ (bl_ HB) hb; clear hb hbox hg) | ((with_reducible refine gd_ 6 ?_); refine bx_ 6 #[.slice none 0 0, .bool false, .int .i64 0] 24 ?_; intro gb311 hg w6 hbox hb; have BK311 := a_ (hbox); have GE311 := a_ (bs_1 hg HB GE310); replace HB := hB_ (bl_1 HB GE310) hb; have NB310_311 := nB_ hg BK310; have NB311_310 := nC_ hg BK310; replace BK310 := bB_ BK310 hb; clear hb hbox hg; have hnb7 := NB310_311.out; have hnc7 := NB311_310.out; obtain ⟨hcz8_0, hcz8_1, hcz8_2, hfz8_0, hfz8_1, hfz8_2⟩ := c3_ BK310) | ((with_reducible refine gk_ 96 ?_); refine gl_ (some 12) Try.func96 #[.agg #[.slice A0_0 l0_0.length c0_0, .bool a0_1, .int .i64 a0_2], .agg #[.int .u8 3, .string a1, .string a2, .string (⟨#[]⟩ : ByteArray), .int .i64 0]] ?_; (with_reducible refine (disk_done.calls k _ _ l0_0 a0_1 a0_2 3 a1 a2 (⟨#[]⟩ : ByteArray) 0 t312 t315 t316 t317 _ ?side1 ?side2 A4.out).mono ?_); (case side1 => exact cl_ (Kd.C_below HR0_0.out HB.out)); (case side2 => exact HC0_0.out); rintro e w9 ⟨v313, rfl, ho0, hb⟩; refine ⟨_, rfl, ?_⟩; have HO314 := a_ (Kd.R_lower ho0 (below_size (bl_2 HB GE310 GE311))); replace BK310 := bB_ BK310 hb; replace BK311 := bB_ BK311 hb; replace HB := hB_ (bl_2 HB GE310 GE311) hb; (try clear hb); (try clear ho0); obtain ⟨Ao10, co10, eo10⟩ := Kd.R_slice HO314.out; subst eo10; obtain ⟨hcz11_0, hcz11_1, hcz11_2, hfz11_0, hfz11_1, hfz11_2⟩ := c3_ BK311))
 refine bodyPost_ret (results_ct rfl _ _ gb311 24 #[.slice Ao10 t312.length co10, .bool t315, .int .i64 t316] (0, 0) _ rfl (bp_0 BK311) Try.underlying24 rfl (by kernel_rfl)) rfl ?_
 exact ⟨_, fz_, by refine rq_ ?_; exact Kd.R_mono (Kd.R_far (p := ⟨gb311, 2, none⟩) (Kd.R_far (p := ⟨gb311, 1, none⟩) (Kd.R_far (p := ⟨gb311, 0, none⟩) (Kd.R_types HO314.out BK311.out (by decide)) (fun _ hk => hk.2) (.slice Ao10 t312.length co10)) (fun _ hk => hk.2) (.bool t315)) (fun _ hk => hk.2) (.int .i64 t316)) (fun _ hk => trivial), bl_2 HB GE310 GE311⟩

-- NOT PRINTED: function 73 (hard_Put_3)

-- NOT PRINTED: function 68 (hard_all)

/-! ### hard_Put: function 45 -/
theorem c1_ {w : World} {g : Nat} {t : TypeId} {a0 : Value} (h : Aside0 (w.heap[g]? = some (.cells #[a0] t (0, 0)))) : w.cell? ⟨g, 0, none⟩ = some a0 ∧ w.frozen? ⟨g, 0, none⟩ = false := ⟨(blk_cell h.out 0).trans rfl, blk_frozen h.out 0⟩
theorem hard_Put_1.calls (k gx gy : Nat) (A0_0 : Option Addr) (c0_0 : Nat) (l0_0 : List (S71)) (a0_1 : Bool) (a0_2 : Int) (sx sy : ByteArray) (r1 : List (S71)) (r2 : Bool) (r3 : Int) (r4 : Int) (w : World) (hx : w.heap[gx]? = some (.cells #[.string sx] 9 (0, 0))) (hy : w.heap[gy]? = some (.cells #[.string sy] 9 (0, 0))) (hr0_0 : Kd.C k71 w A0_0 l0_0.length l0_0) (hc0_0 : l0_0.length ≤ c0_0) (h : disk_Add.f k l0_0 a0_1 a0_2 sx sy = some (r1, r2, r3, r4)) :
  Calls Try.prog 69 #[.agg #[.slice A0_0 l0_0.length c0_0, .bool a0_1, .int .i64 a0_2], .pointer (some ⟨gx, 0, none⟩), .pointer (some ⟨gy, 0, none⟩)] w fun e w' => ∃ v0_ : Value, e = .returned (.tuple #[.agg #[v0_, .bool r2, .int .i64 r3], .int .i64 r4]) ∧ Kd.R k71 71 w' w.heap.size (fun _ => True) v0_ r1 ∧ Below w.heap.size w w' := by
 have hu24 := Try.underlying24
 have HR0_0 := a_ hr0_0
 have HC0_0 := a_ hc0_0
 clear hr0_0 hc0_0
 have BX := a_ hx
 clear hx
 have BY := a_ hy
 clear hy
 have HB := a_ (Below.refl w.heap.size w)
 have A4 := a_ h
 clear h
 go_enter Try.func69, Try.ntmps69
 go_wp2_with (first | ((with_reducible refine gd_ 3 ?_); refine bx_ 3 #[.slice A0_0 l0_0.length c0_0, .bool a0_1, .int .i64 a0_2] 24 ?_; intro ga hg w_ hbox hb; have BKa := a_ (hbox); have GEa := a_ (bs_0 hg HB ); replace BX := bB_ BX hb; replace BY := bB_ BY hb; replace HB := hB_ (bl_ HB) hb; clear hb hbox hg) | ((with_reducible refine gd_ 4 ?_); refine bx_ 4 #[.slice none 0 0, .bool false, .int .i64 0] 24 ?_; intro gb hg w_ hbox hb; have BKb := a_ (hbox); have GEb := a_ (bs_1 hg HB GEa); have NBa_b := nB_ hg BKa; have NBb_a := nC_ hg BKa; replace BX := bB_ BX hb; replace BY := bB_ BY hb; replace BKa := bB_ BKa hb; replace HB := hB_ (bl_1 HB GEa) hb; clear hb hbox hg; have hne := NBa_b.out; have hne2 := NBb_a.out; obtain ⟨hcza_0, hcza_1, hcza_2, hfza_0, hfza_1, hfza_2⟩ := c3_ BKa; obtain ⟨hczx, hfzx⟩ := c1_ BX; obtain ⟨hczy, hfzy⟩ := c1_ BY) | ((with_reducible refine gk_ 70 ?_); refine gl_ (some 9) Try.func70 #[.agg #[.slice A0_0 l0_0.length c0_0, .bool a0_1, .int .i64 a0_2], .string sx, .string sy] ?_; (with_reducible refine (disk_Add.calls k _ _ l0_0 a0_1 a0_2 sx sy r1 r2 r3 r4 _ ?side1 ?side2 A4.out).mono ?_); (case side1 => exact cl_ (Kd.C_below HR0_0.out HB.out)); (case side2 => exact HC0_0.out); rintro e w9 ⟨v9, rfl, ho0, hb⟩; refine ⟨_, rfl, ?_⟩; have HO := a_ (Kd.R_lower ho0 (below_size (bl_2 HB GEa GEb))); replace BKb := bB_ BKb hb; replace HB := hB_ (bl_2 HB GEa GEb) hb; clear hb ho0; obtain ⟨Ao, co, eo⟩ := Kd.R_slice HO.out; subst eo; obtain ⟨hczb_0, hczb_1, hczb_2, hfzb_0, hfzb_1, hfzb_2⟩ := c3_ BKb))
 refine bodyPost_ret (results_ct rfl _ _ gb 24 #[.slice Ao r1.length co, .bool r2, .int .i64 r3] (0, 0) _ rfl (bp_0 BKb) Try.underlying24 rfl (by kernel_rfl)) rfl ?_
 exact ⟨_, fz_, by refine rq_ ?_; exact Kd.R_mono (Kd.R_far (p := ⟨gb, 2, none⟩) (Kd.R_far (p := ⟨gb, 1, none⟩) (Kd.R_far (p := ⟨gb, 0, none⟩) (Kd.R_types HO.out BKb.out (by decide)) (fun _ hk => hk.2) _) (fun _ hk => hk.2) _) (fun _ hk => hk.2) _) (fun _ hk => trivial), bl_2 HB GEa GEb⟩

theorem hard_Put_2.calls (k gx : Nat) (A0_0 : Option Addr) (c0_0 : Nat) (l0_0 : List (S71)) (a0_1 : Bool) (a0_2 : Int) (sx : ByteArray) (r1 : List (S71)) (r2 : Bool) (r3 : Int) (r4 : Int) (w : World) (hx : w.heap[gx]? = some (.cells #[.string sx] 9 (0, 0))) (hr0_0 : Kd.C k71 w A0_0 l0_0.length l0_0) (hc0_0 : l0_0.length ≤ c0_0) (h : disk_Sync.f k l0_0 a0_1 a0_2 sx = some (r1, r2, r3, r4)) :
  Calls Try.prog 71 #[.agg #[.slice A0_0 l0_0.length c0_0, .bool a0_1, .int .i64 a0_2], .pointer (some ⟨gx, 0, none⟩)] w fun e w' => ∃ v0_ : Value, e = .returned (.tuple #[.agg #[v0_, .bool r2, .int .i64 r3], .int .i64 r4]) ∧ Kd.R k71 71 w' w.heap.size (fun _ => True) v0_ r1 ∧ Below w.heap.size w w' := by
 have hu24 := Try.underlying24
 have HR0_0 := a_ hr0_0
 have HC0_0 := a_ hc0_0
 clear hr0_0 hc0_0
 have BX := a_ hx
 clear hx
 have HB := a_ (Below.refl w.heap.size w)
 have A4 := a_ h
 clear h
 go_enter Try.func71, Try.ntmps71
 go_wp2_with (first | ((with_reducible refine gd_ 2 ?_); refine bx_ 2 #[.slice A0_0 l0_0.length c0_0, .bool a0_1, .int .i64 a0_2] 24 ?_; intro ga hg w_ hbox hb; have BKa := a_ (hbox); have GEa := a_ (bs_0 hg HB ); replace BX := bB_ BX hb; replace HB := hB_ (bl_ HB) hb; clear hb hbox hg) | ((with_reducible refine gd_ 3 ?_); refine bx_ 3 #[.slice none 0 0, .bool false, .int .i64 0] 24 ?_; intro gb hg w_ hbox hb; have BKb := a_ (hbox); have GEb := a_ (bs_1 hg HB GEa); have NBa_b := nB_ hg BKa; have NBb_a := nC_ hg BKa; replace BX := bB_ BX hb; replace BKa := bB_ BKa hb; replace HB := hB_ (bl_1 HB GEa) hb; clear hb hbox hg; have hne := NBa_b.out; have hne2 := NBb_a.out; obtain ⟨hcza_0, hcza_1, hcza_2, hfza_0, hfza_1, hfza_2⟩ := c3_ BKa; obtain ⟨hczx, hfzx⟩ := c1_ BX) | ((with_reducible refine gk_ 72 ?_); refine gl_ (some 7) Try.func72 #[.agg #[.slice A0_0 l0_0.length c0_0, .bool a0_1, .int .i64 a0_2], .string sx] ?_; (with_reducible refine (disk_Sync.calls k _ _ l0_0 a0_1 a0_2 sx r1 r2 r3 r4 _ ?side1 ?side2 A4.out).mono ?_); (case side1 => exact cl_ (Kd.C_below HR0_0.out HB.out)); (case side2 => exact HC0_0.out); rintro e w9 ⟨v9, rfl, ho0, hb⟩; refine ⟨_, rfl, ?_⟩; have HO := a_ (Kd.R_lower ho0 (below_size (bl_2 HB GEa GEb))); replace BKb := bB_ BKb hb; replace HB := hB_ (bl_2 HB GEa GEb) hb; clear hb ho0; obtain ⟨Ao, co, eo⟩ := Kd.R_slice HO.out; subst eo; obtain ⟨hczb_0, hczb_1, hczb_2, hfzb_0, hfzb_1, hfzb_2⟩ := c3_ BKb))
 refine bodyPost_ret (results_ct rfl _ _ gb 24 #[.slice Ao r1.length co, .bool r2, .int .i64 r3] (0, 0) _ rfl (bp_0 BKb) Try.underlying24 rfl (by kernel_rfl)) rfl ?_
 exact ⟨_, fz_, by refine rq_ ?_; exact Kd.R_mono (Kd.R_far (p := ⟨gb, 2, none⟩) (Kd.R_far (p := ⟨gb, 1, none⟩) (Kd.R_far (p := ⟨gb, 0, none⟩) (Kd.R_types HO.out BKb.out (by decide)) (fun _ hk => hk.2) _) (fun _ hk => hk.2) _) (fun _ hk => hk.2) _) (fun _ hk => trivial), bl_2 HB GEa GEb⟩

theorem hard_Put_3.calls (k gx gy : Nat) (A0_0 : Option Addr) (c0_0 : Nat) (l0_0 : List (S71)) (a0_1 : Bool) (a0_2 : Int) (sx sy : ByteArray) (r1 : List (S71)) (r2 : Bool) (r3 : Int) (r4 : Int) (w : World) (hx : w.heap[gx]? = some (.cells #[.string sx] 9 (0, 0))) (hy : w.heap[gy]? = some (.cells #[.string sy] 9 (0, 0))) (hr0_0 : Kd.C k71 w A0_0 l0_0.length l0_0) (hc0_0 : l0_0.length ≤ c0_0) (h : disk_Swap.f k l0_0 a0_1 a0_2 sx sy = some (r1, r2, r3, r4)) :
  Calls Try.prog 73 #[.agg #[.slice A0_0 l0_0.length c0_0, .bool a0_1, .int .i64 a0_2], .pointer (some ⟨gx, 0, none⟩), .pointer (some ⟨gy, 0, none⟩)] w fun e w' => ∃ v0_ : Value, e = .returned (.tuple #[.agg #[v0_, .bool r2, .int .i64 r3], .int .i64 r4]) ∧ Kd.R k71 71 w' w.heap.size (fun _ => True) v0_ r1 ∧ Below w.heap.size w w' := by
 have hu24 := Try.underlying24
 have HR0_0 := a_ hr0_0
 have HC0_0 := a_ hc0_0
 clear hr0_0 hc0_0
 have BX := a_ hx
 clear hx
 have BY := a_ hy
 clear hy
 have HB := a_ (Below.refl w.heap.size w)
 have A4 := a_ h
 clear h
 go_enter Try.func73, Try.ntmps73
 go_wp2_with (first | ((with_reducible refine gd_ 3 ?_); refine bx_ 3 #[.slice A0_0 l0_0.length c0_0, .bool a0_1, .int .i64 a0_2] 24 ?_; intro ga hg w_ hbox hb; have BKa := a_ (hbox); have GEa := a_ (bs_0 hg HB ); replace BX := bB_ BX hb; replace BY := bB_ BY hb; replace HB := hB_ (bl_ HB) hb; clear hb hbox hg) | ((with_reducible refine gd_ 4 ?_); refine bx_ 4 #[.slice none 0 0, .bool false, .int .i64 0] 24 ?_; intro gb hg w_ hbox hb; have BKb := a_ (hbox); have GEb := a_ (bs_1 hg HB GEa); have NBa_b := nB_ hg BKa; have NBb_a := nC_ hg BKa; replace BX := bB_ BX hb; replace BY := bB_ BY hb; replace BKa := bB_ BKa hb; replace HB := hB_ (bl_1 HB GEa) hb; clear hb hbox hg; have hne := NBa_b.out; have hne2 := NBb_a.out; obtain ⟨hcza_0, hcza_1, hcza_2, hfza_0, hfza_1, hfza_2⟩ := c3_ BKa; obtain ⟨hczx, hfzx⟩ := c1_ BX; obtain ⟨hczy, hfzy⟩ := c1_ BY) | ((with_reducible refine gk_ 74 ?_); refine gl_ (some 9) Try.func74 #[.agg #[.slice A0_0 l0_0.length c0_0, .bool a0_1, .int .i64 a0_2], .string sx, .string sy] ?_; (with_reducible refine (disk_Swap.calls k _ _ l0_0 a0_1 a0_2 sx sy r1 r2 r3 r4 _ ?side1 ?side2 A4.out).mono ?_); (case side1 => exact cl_ (Kd.C_below HR0_0.out HB.out)); (case side2 => exact HC0_0.out); rintro e w9 ⟨v9, rfl, ho0, hb⟩; refine ⟨_, rfl, ?_⟩; have HO := a_ (Kd.R_lower ho0 (below_size (bl_2 HB GEa GEb))); replace BKb := bB_ BKb hb; replace HB := hB_ (bl_2 HB GEa GEb) hb; clear hb ho0; obtain ⟨Ao, co, eo⟩ := Kd.R_slice HO.out; subst eo; obtain ⟨hczb_0, hczb_1, hczb_2, hfzb_0, hfzb_1, hfzb_2⟩ := c3_ BKb))
 refine bodyPost_ret (results_ct rfl _ _ gb 24 #[.slice Ao r1.length co, .bool r2, .int .i64 r3] (0, 0) _ rfl (bp_0 BKb) Try.underlying24 rfl (by kernel_rfl)) rfl ?_
 exact ⟨_, fz_, by refine rq_ ?_; exact Kd.R_mono (Kd.R_far (p := ⟨gb, 2, none⟩) (Kd.R_far (p := ⟨gb, 1, none⟩) (Kd.R_far (p := ⟨gb, 0, none⟩) (Kd.R_types HO.out BKb.out (by decide)) (fun _ hk => hk.2) _) (fun _ hk => hk.2) _) (fun _ hk => hk.2) _) (fun _ hk => trivial), bl_2 HB GEa GEb⟩

def hard_all.s2 (k : Nat) (tm nm : ByteArray) (l : List (S71)) (b : Bool) (i : Int) : Option ((List (S71)) × Bool × Int × Int) := (disk_Swap.f k l b i tm nm).bind fun x => if x.2.2.2 = 0 then some (x.1, x.2.1, x.2.2.1, 0) else some (x.1, x.2.1, x.2.2.1, x.2.2.2)
def hard_all.s1 (k : Nat) (tm nm : ByteArray) (l : List (S71)) (b : Bool) (i : Int) : Option ((List (S71)) × Bool × Int × Int) := (disk_Sync.f k l b i tm).bind fun x => if x.2.2.2 = 0 then hard_all.s2 k tm nm x.1 x.2.1 x.2.2.1 else some (x.1, x.2.1, x.2.2.1, x.2.2.2)
def hard_all.f (k : Nat) (tm nm dt : ByteArray) (l : List (S71)) (b : Bool) (i : Int) : Option ((List (S71)) × Bool × Int × Int) := (disk_Add.f k l b i tm dt).bind fun x => if x.2.2.2 = 0 then hard_all.s1 k tm nm x.1 x.2.1 x.2.2.1 else some (x.1, x.2.1, x.2.2.1, x.2.2.2)
theorem hard_all.mono : ∀ a0 a1 a2 a3 a4 a5 k, LeO (hard_all.f k a0 a1 a2 a3 a4 a5) (hard_all.f (k + 1) a0 a1 a2 a3 a4 a5) := fun a0 a1 a2 a3 a4 a5 k => LeO.bind (disk_Add.mono _ _ _ _ _ k) (fun _ => LeO.ite (LeO.bind (disk_Sync.mono _ _ _ _ k) (fun _ => LeO.ite (LeO.bind (disk_Swap.mono _ _ _ _ _ k) (fun _ => LeO.refl _)) (LeO.refl _))) (LeO.refl _))
theorem hard_all.calls (k gr gt gd gn : Nat) (A0_0 : Option Addr) (c0_0 : Nat) (l0_0 : List (S71)) (a0_1 : Bool) (a0_2 : Int) (tm nm dt : ByteArray) (r1 : List (S71)) (r2 : Bool) (r3 : Int) (r4 : Int) (w : World) (hrow : w.heap[gr]? = some (.cells #[.func (.func 69) #[] #[.pointer (some ⟨gt, 0, none⟩), .pointer (some ⟨gd, 0, none⟩)], .func (.func 71) #[] #[.pointer (some ⟨gt, 0, none⟩)], .func (.func 73) #[] #[.pointer (some ⟨gt, 0, none⟩), .pointer (some ⟨gn, 0, none⟩)]] 95 (0, 0))) (ht : w.heap[gt]? = some (.cells #[.string tm] 9 (0, 0))) (hd : w.heap[gd]? = some (.cells #[.string dt] 9 (0, 0))) (hn : w.heap[gn]? = some (.cells #[.string nm] 9 (0, 0))) (hr0_0 : Kd.C k71 w A0_0 l0_0.length l0_0) (hc0_0 : l0_0.length ≤ c0_0) (h : hard_all.f k tm nm dt l0_0 a0_1 a0_2 = some (r1, r2, r3, r4)) :
  Calls Try.prog 68 #[.agg #[.slice A0_0 l0_0.length c0_0, .bool a0_1, .int .i64 a0_2], .slice (some ⟨gr, 0, none⟩) 3 3] w fun e w' => ∃ v0_ : Value, e = .returned (.tuple #[.agg #[v0_, .bool r2, .int .i64 r3], .int .i64 r4]) ∧ Kd.R k71 71 w' w.heap.size (fun _ => True) v0_ r1 ∧ Below w.heap.size w w' := by
 have hu24 := Try.underlying24
 have HR0_0 := a_ hr0_0
 have HC0_0 := a_ hc0_0
 clear hr0_0 hc0_0
 have BR := a_ hrow
 have BT := a_ ht
 have BD := a_ hd
 have BN := a_ hn
 clear hrow ht hd hn
 have HB := a_ (Below.refl w.heap.size w)
 have H' := a_ h
 clear h
 go_enter Try.func68, Try.ntmps68
 go_wp2_with (first | ((with_reducible refine gd_ 2 ?_); refine bx_ 2 #[.slice A0_0 l0_0.length c0_0, .bool a0_1, .int .i64 a0_2] 24 ?_; intro ga hg w_ hbox hb; have BKa := a_ (hbox); have GEa := a_ (bs_0 hg HB ); have NBr_a := nB_ hg BR; have NBt_a := nB_ hg BT; have NBd_a := nB_ hg BD; have NBn_a := nB_ hg BN; replace BR := bB_ BR hb; replace BT := bB_ BT hb; replace BD := bB_ BD hb; replace BN := bB_ BN hb; replace HB := hB_ (bl_ HB) hb; clear hb hbox hg) | ((with_reducible refine gd_ 4 ?_); refine bx_ 4 #[.slice none 0 0, .bool false, .int .i64 0] 24 ?_; intro gb hg w_ hbox hb; have BKb := a_ (hbox); have GEb := a_ (bs_1 hg HB GEa); have NBa_b := nB_ hg BKa; have NBb_a := nC_ hg BKa; replace BR := bB_ BR hb; replace BT := bB_ BT hb; replace BD := bB_ BD hb; replace BN := bB_ BN hb; replace BKa := bB_ BKa hb; replace HB := hB_ (bl_1 HB GEa) hb; clear hb hbox hg))
 go_loopg [12] 4 (fun kq v12 w' => Aside0 (w'.heap[gr]? = some (.cells #[.func (.func 69) #[] #[.pointer (some ⟨gt, 0, none⟩), .pointer (some ⟨gd, 0, none⟩)], .func (.func 71) #[] #[.pointer (some ⟨gt, 0, none⟩)], .func (.func 73) #[] #[.pointer (some ⟨gt, 0, none⟩), .pointer (some ⟨gn, 0, none⟩)]] 95 (0, 0))) ∧ Aside0 (w'.heap[gt]? = some (.cells #[.string tm] 9 (0, 0))) ∧ Aside0 (w'.heap[gd]? = some (.cells #[.string dt] 9 (0, 0))) ∧ Aside0 (w'.heap[gn]? = some (.cells #[.string nm] 9 (0, 0))) ∧ Aside0 (w'.heap[gb]? = some (.cells #[.slice none 0 0, .bool false, .int .i64 0] 24 (0, 0))) ∧ Aside0 (Below w.heap.size w w') ∧ ((kq = 4 ∧ v12 = .int .i64 0 ∧ Aside0 (w'.heap[ga]? = some (.cells #[.slice A0_0 l0_0.length c0_0, .bool a0_1, .int .i64 a0_2] 24 (0, 0)))) ∨ (kq = 3 ∧ v12 = .int .i64 1 ∧ ∃ (v_ : Value) (l_ : List (S71)) (b_ : Bool) (i_ : Int), Aside0 (w'.heap[ga]? = some (.cells #[v_, .bool b_, .int .i64 i_] 24 (0, 0))) ∧ Aside0 (Kd.R k71 71 w' w.heap.size (fun _ => True) v_ l_) ∧ Aside0 (hard_all.s1 k tm nm l_ b_ i_ = some (r1, r2, r3, r4))) ∨ (kq = 2 ∧ v12 = .int .i64 2 ∧ ∃ (v_ : Value) (l_ : List (S71)) (b_ : Bool) (i_ : Int), Aside0 (w'.heap[ga]? = some (.cells #[v_, .bool b_, .int .i64 i_] 24 (0, 0))) ∧ Aside0 (Kd.R k71 71 w' w.heap.size (fun _ => True) v_ l_) ∧ Aside0 (hard_all.s2 k tm nm l_ b_ i_ = some (r1, r2, r3, r4))) ∨ (kq = 1 ∧ v12 = .int .i64 3 ∧ ∃ (v_ : Value) (l_ : List (S71)) (b_ : Bool) (i_ : Int), Aside0 (w'.heap[ga]? = some (.cells #[v_, .bool b_, .int .i64 i_] 24 (0, 0))) ∧ Aside0 (Kd.R k71 71 w' w.heap.size (fun _ => True) v_ l_) ∧ Aside0 (some (l_, b_, i_, 0) = some (r1, r2, r3, r4)))))
 case atStart => exact ⟨⟨bk_ BR⟩, ⟨bk_ BT⟩, ⟨bk_ BD⟩, ⟨bk_ BN⟩, ⟨bk_ BKb⟩, ⟨bl_2 HB GEa GEb⟩, .inl ⟨rfl, by first | rfl | (simp; done), ⟨bk_ BKa⟩⟩⟩
 case round =>
  clear HB BR BT BD BN BKa BKb
  obtain ⟨BR, BT, BD, BN, BKb, HB, hst⟩ := hrel
  rcases hst with ⟨rfl, rfl, BKa⟩ | ⟨rfl, rfl, v_, l_, b_, i_, BKa, HO, H1⟩ | ⟨rfl, rfl, v_, l_, b_, i_, BKa, HO, H1⟩ | ⟨rfl, rfl, v_, l_, b_, i_, BKa, HO, H1⟩
  · obtain ⟨⟨x1, x2, x3, x4⟩, A10, H⟩ := Option.bind_eq_some_iff.mp (show (disk_Add.f k l0_0 a0_1 a0_2 tm dt).bind _ = some _ from H'.out)
    have A1 := a_ A10
    clear A10 H'
    try dsimp only at H
    obtain ⟨hca_0, hca_1, hca_2, hfa_0, hfa_1, hfa_2⟩ := c3_ BKa
    have hcr := (blk_cell BR.out 0).trans rfl
    by_cases c4 : x4 = 0
    ·rw [if_pos c4] at H
     have c4b0 : (x4 == 0) = true := beq_iff_eq.mpr c4
     have c4b1 : (x4 != 0) = false := bne_eq_false_iff_eq.mpr c4
     clear c4
     have H2 := a_ H
     clear H
     go_wp2_with (first | (go_at_call 69; (with_reducible refine (hard_Put_1.calls k gt gd A0_0 c0_0 l0_0 a0_1 a0_2 tm dt x1 x2 x3 x4 _ ?bx ?bz ?s1 ?s2 A1.out).mono ?_); (case bx => exact bk_ BT); (case bz => exact bk_ BD); (case s1 => exact cl_ (Kd.C_below HR0_0.out HB.out)); (case s2 => exact HC0_0.out); rintro e w9 ⟨v9, rfl, ho0, hb⟩; have HO9 := a_ (Kd.R_lower ho0 (below_size (bl_2 HB GEa GEb))); replace BR := bB_ BR hb; replace BT := bB_ BT hb; replace BD := bB_ BD hb; replace BN := bB_ BN hb; replace BKa := bB_ BKa hb; replace BKb := bB_ BKb hb; replace HB := hB_ (bl_2 HB GEa GEb) hb; clear hb ho0; obtain ⟨A9, c9, e9⟩ := Kd.R_slice HO9.out; subst e9) | ((with_reducible refine gd_ 8 ?_); refine bx_ 8 #[.slice none 0 0, .bool false, .int .i64 0] 24 ?_; intro gc hg w_ hbox hb; have BKc := a_ (hbox); have GEc := a_ (bs_2 hg HB GEa GEb); have NBa_c := nB_ hg BKa; have NBc_a := nC_ hg BKa; have NBb_c := nB_ hg BKb; have NBc_b := nC_ hg BKb; have NBr_c := nB_ hg BR; have NBt_c := nB_ hg BT; have NBd_c := nB_ hg BD; have NBn_c := nB_ hg BN; replace BR := bB_ BR hb; replace BT := bB_ BT hb; replace BD := bB_ BD hb; replace BN := bB_ BN hb; replace BKa := bB_ BKa hb; replace BKb := bB_ BKb hb; replace HO9 := a_ (Kd.R_below (by refine rq_ ?_; exact HO9.out) hb); replace HB := hB_ (bl_2 HB GEa GEb) hb; clear hb hbox hg; have hn1 := NBa_c.out; have hn2 := NBc_a.out; have hn3 := NBb_c.out; have hn4 := NBc_b.out; have hn5 := NBa_b.out; have hn6 := NBb_a.out; clear hca_0 hca_1 hca_2 hfa_0 hfa_1 hfa_2 hcr; obtain ⟨hcza_0, hcza_1, hcza_2, hfza_0, hfza_1, hfza_2⟩ := c3_ BKa; obtain ⟨hczb_0, hczb_1, hczb_2, hfzb_0, hfzb_1, hfzb_2⟩ := c3_ BKb; obtain ⟨hczc_0, hczc_1, hczc_2, hfzc_0, hfzc_1, hfzc_2⟩ := c3_ BKc))
     go_roundg 3
     case measure => omega
     case rel => exact ⟨⟨bp_2 BR NBr_a NBr_c⟩, ⟨bp_2 BT NBt_a NBt_c⟩, ⟨bp_2 BD NBd_a NBd_c⟩, ⟨bp_2 BN NBn_a NBn_c⟩, ⟨bp_2 BKb NBb_a NBb_c⟩, ⟨bl_3 HB GEa GEb GEc⟩, .inr (.inl ⟨rfl, by first | rfl | (simp; done), _, x1, x2, x3, ⟨bp_1 BKa NBa_c⟩, ⟨by refine rq_ ?_; exact Kd.R_mono (Kd.R_far (p := ⟨ga, 2, none⟩) (Kd.R_far (p := ⟨ga, 1, none⟩) (Kd.R_far (p := ⟨ga, 0, none⟩) (Kd.R_far (p := ⟨gc, 2, none⟩) (Kd.R_far (p := ⟨gc, 1, none⟩) (Kd.R_far (p := ⟨gc, 0, none⟩) (Kd.R_types (Kd.R_types HO9.out BKa.out (by decide)) BKc.out (by decide)) (fun _ hk => hk.2) _) (fun _ hk => hk.2) _) (fun _ hk => hk.2) _) (fun _ hk => hk.1.2) _) (fun _ hk => hk.1.2) _) (fun _ hk => hk.1.2) _) (fun _ hk => trivial)⟩, H2⟩)⟩
    rw [if_neg c4] at H
    have c4b0 : (x4 == 0) = false := beq_eq_false_iff_ne.mpr c4
    have c4b1 : (x4 != 0) = true := bne_iff_ne.mpr c4
    clear c4
    simp only [Option.some.injEq, Prod.mk.injEq] at H
    obtain ⟨rfl, rfl, rfl, rfl⟩ := H
    go_wp2_with (first | (go_at_call 69; (with_reducible refine (hard_Put_1.calls k gt gd A0_0 c0_0 l0_0 a0_1 a0_2 tm dt x1 x2 x3 x4 _ ?bx ?bz ?s1 ?s2 A1.out).mono ?_); (case bx => exact bk_ BT); (case bz => exact bk_ BD); (case s1 => exact cl_ (Kd.C_below HR0_0.out HB.out)); (case s2 => exact HC0_0.out); rintro e w9 ⟨v9, rfl, ho0, hb⟩; have HO9 := a_ (Kd.R_lower ho0 (below_size (bl_2 HB GEa GEb))); replace BR := bB_ BR hb; replace BT := bB_ BT hb; replace BD := bB_ BD hb; replace BN := bB_ BN hb; replace BKa := bB_ BKa hb; replace BKb := bB_ BKb hb; replace HB := hB_ (bl_2 HB GEa GEb) hb; clear hb ho0; obtain ⟨A9, c9, e9⟩ := Kd.R_slice HO9.out; subst e9) | ((with_reducible refine gd_ 8 ?_); refine bx_ 8 #[.slice none 0 0, .bool false, .int .i64 0] 24 ?_; intro gc hg w_ hbox hb; have BKc := a_ (hbox); have GEc := a_ (bs_2 hg HB GEa GEb); have NBa_c := nB_ hg BKa; have NBc_a := nC_ hg BKa; have NBb_c := nB_ hg BKb; have NBc_b := nC_ hg BKb; have NBr_c := nB_ hg BR; have NBt_c := nB_ hg BT; have NBd_c := nB_ hg BD; have NBn_c := nB_ hg BN; replace BR := bB_ BR hb; replace BT := bB_ BT hb; replace BD := bB_ BD hb; replace BN := bB_ BN hb; replace BKa := bB_ BKa hb; replace BKb := bB_ BKb hb; replace HO9 := a_ (Kd.R_below (by refine rq_ ?_; exact HO9.out) hb); replace HB := hB_ (bl_2 HB GEa GEb) hb; clear hb hbox hg; have hn1 := NBa_c.out; have hn2 := NBc_a.out; have hn3 := NBb_c.out; have hn4 := NBc_b.out; have hn5 := NBa_b.out; have hn6 := NBb_a.out; clear hca_0 hca_1 hca_2 hfa_0 hfa_1 hfa_2 hcr; obtain ⟨hcza_0, hcza_1, hcza_2, hfza_0, hfza_1, hfza_2⟩ := c3_ BKa; obtain ⟨hczb_0, hczb_1, hczb_2, hfzb_0, hfzb_1, hfzb_2⟩ := c3_ BKb; obtain ⟨hczc_0, hczc_1, hczc_2, hfzc_0, hfzc_1, hfzc_2⟩ := c3_ BKc))
    refine bodyPost_ret (results_ct rfl _ _ gb 24 #[.slice A9 x1.length c9, .bool x2, .int .i64 x3] (0, 0) _ rfl (bp_1 BKb NBb_c) Try.underlying24 rfl (by kernel_rfl)) rfl ?_
    exact ⟨_, fz_, by refine rq_ ?_; exact Kd.R_mono (Kd.R_far (p := ⟨gb, 2, none⟩) (Kd.R_far (p := ⟨gb, 1, none⟩) (Kd.R_far (p := ⟨gb, 0, none⟩) (Kd.R_far (p := ⟨gc, 2, none⟩) (Kd.R_far (p := ⟨gc, 1, none⟩) (Kd.R_far (p := ⟨gc, 0, none⟩) (Kd.R_types (Kd.R_types HO9.out BKb.out (by decide)) BKc.out (by decide)) (fun _ hk => hk.2) _) (fun _ hk => hk.2) _) (fun _ hk => hk.2) _) (fun _ hk => hk.1.2) _) (fun _ hk => hk.1.2) _) (fun _ hk => hk.1.2) _) (fun _ hk => trivial), bl_3 HB GEa GEb GEc⟩
  · obtain ⟨⟨x1, x2, x3, x4⟩, A10, H⟩ := Option.bind_eq_some_iff.mp (show (disk_Sync.f k l_ b_ i_ tm).bind _ = some _ from H1.out)
    have A1 := a_ A10
    clear A10 H' H1
    try dsimp only at H
    obtain ⟨Ao, co, eo⟩ := Kd.R_slice HO.out
    subst eo
    obtain ⟨hca_0, hca_1, hca_2, hfa_0, hfa_1, hfa_2⟩ := c3_ BKa
    have hcr := (blk_cell BR.out 1).trans rfl
    by_cases c4 : x4 = 0
    ·rw [if_pos c4] at H
     have c4b0 : (x4 == 0) = true := beq_iff_eq.mpr c4
     have c4b1 : (x4 != 0) = false := bne_eq_false_iff_eq.mpr c4
     clear c4
     have H2 := a_ H
     clear H
     go_wp2_with (first | (go_at_call 71; (with_reducible refine (hard_Put_2.calls k gt Ao co l_ b_ i_ tm x1 x2 x3 x4 _ ?bx ?s1 ?s2 A1.out).mono ?_); (case bx => exact bk_ BT); (case s1 => exact cl_ ((Kd.R_reads' HO.out).2.2)); (case s2 => exact (Kd.R_reads' HO.out).2.1); rintro e w9 ⟨v9, rfl, ho0, hb⟩; have HO9 := a_ (Kd.R_lower ho0 (below_size (bl_2 HB GEa GEb))); replace BR := bB_ BR hb; replace BT := bB_ BT hb; replace BD := bB_ BD hb; replace BN := bB_ BN hb; replace BKa := bB_ BKa hb; replace BKb := bB_ BKb hb; replace HB := hB_ (bl_2 HB GEa GEb) hb; clear hb ho0; obtain ⟨A9, c9, e9⟩ := Kd.R_slice HO9.out; subst e9) | ((with_reducible refine gd_ 8 ?_); refine bx_ 8 #[.slice none 0 0, .bool false, .int .i64 0] 24 ?_; intro gc hg w_ hbox hb; have BKc := a_ (hbox); have GEc := a_ (bs_2 hg HB GEa GEb); have NBa_c := nB_ hg BKa; have NBc_a := nC_ hg BKa; have NBb_c := nB_ hg BKb; have NBc_b := nC_ hg BKb; have NBr_c := nB_ hg BR; have NBt_c := nB_ hg BT; have NBd_c := nB_ hg BD; have NBn_c := nB_ hg BN; replace BR := bB_ BR hb; replace BT := bB_ BT hb; replace BD := bB_ BD hb; replace BN := bB_ BN hb; replace BKa := bB_ BKa hb; replace BKb := bB_ BKb hb; replace HO9 := a_ (Kd.R_below (by refine rq_ ?_; exact HO9.out) hb); replace HB := hB_ (bl_2 HB GEa GEb) hb; clear hb hbox hg; have hn1 := NBa_c.out; have hn2 := NBc_a.out; have hn3 := NBb_c.out; have hn4 := NBc_b.out; have hn5 := NBa_b.out; have hn6 := NBb_a.out; clear hca_0 hca_1 hca_2 hfa_0 hfa_1 hfa_2 hcr; obtain ⟨hcza_0, hcza_1, hcza_2, hfza_0, hfza_1, hfza_2⟩ := c3_ BKa; obtain ⟨hczb_0, hczb_1, hczb_2, hfzb_0, hfzb_1, hfzb_2⟩ := c3_ BKb; obtain ⟨hczc_0, hczc_1, hczc_2, hfzc_0, hfzc_1, hfzc_2⟩ := c3_ BKc))
     go_roundg 2
     case measure => omega
     case rel => exact ⟨⟨bp_2 BR NBr_a NBr_c⟩, ⟨bp_2 BT NBt_a NBt_c⟩, ⟨bp_2 BD NBd_a NBd_c⟩, ⟨bp_2 BN NBn_a NBn_c⟩, ⟨bp_2 BKb NBb_a NBb_c⟩, ⟨bl_3 HB GEa GEb GEc⟩, .inr (.inr (.inl ⟨rfl, by first | rfl | (simp; done), _, x1, x2, x3, ⟨bp_1 BKa NBa_c⟩, ⟨by refine rq_ ?_; exact Kd.R_mono (Kd.R_far (p := ⟨ga, 2, none⟩) (Kd.R_far (p := ⟨ga, 1, none⟩) (Kd.R_far (p := ⟨ga, 0, none⟩) (Kd.R_far (p := ⟨gc, 2, none⟩) (Kd.R_far (p := ⟨gc, 1, none⟩) (Kd.R_far (p := ⟨gc, 0, none⟩) (Kd.R_types (Kd.R_types HO9.out BKa.out (by decide)) BKc.out (by decide)) (fun _ hk => hk.2) _) (fun _ hk => hk.2) _) (fun _ hk => hk.2) _) (fun _ hk => hk.1.2) _) (fun _ hk => hk.1.2) _) (fun _ hk => hk.1.2) _) (fun _ hk => trivial)⟩, H2⟩))⟩
    rw [if_neg c4] at H
    have c4b0 : (x4 == 0) = false := beq_eq_false_iff_ne.mpr c4
    have c4b1 : (x4 != 0) = true := bne_iff_ne.mpr c4
    clear c4
    simp only [Option.some.injEq, Prod.mk.injEq] at H
    obtain ⟨rfl, rfl, rfl, rfl⟩ := H
    go_wp2_with (first | (go_at_call 71; (with_reducible refine (hard_Put_2.calls k gt Ao co l_ b_ i_ tm x1 x2 x3 x4 _ ?bx ?s1 ?s2 A1.out).mono ?_); (case bx => exact bk_ BT); (case s1 => exact cl_ ((Kd.R_reads' HO.out).2.2)); (case s2 => exact (Kd.R_reads' HO.out).2.1); rintro e w9 ⟨v9, rfl, ho0, hb⟩; have HO9 := a_ (Kd.R_lower ho0 (below_size (bl_2 HB GEa GEb))); replace BR := bB_ BR hb; replace BT := bB_ BT hb; replace BD := bB_ BD hb; replace BN := bB_ BN hb; replace BKa := bB_ BKa hb; replace BKb := bB_ BKb hb; replace HB := hB_ (bl_2 HB GEa GEb) hb; clear hb ho0; obtain ⟨A9, c9, e9⟩ := Kd.R_slice HO9.out; subst e9) | ((with_reducible refine gd_ 8 ?_); refine bx_ 8 #[.slice none 0 0, .bool false, .int .i64 0] 24 ?_; intro gc hg w_ hbox hb; have BKc := a_ (hbox); have GEc := a_ (bs_2 hg HB GEa GEb); have NBa_c := nB_ hg BKa; have NBc_a := nC_ hg BKa; have NBb_c := nB_ hg BKb; have NBc_b := nC_ hg BKb; have NBr_c := nB_ hg BR; have NBt_c := nB_ hg BT; have NBd_c := nB_ hg BD; have NBn_c := nB_ hg BN; replace BR := bB_ BR hb; replace BT := bB_ BT hb; replace BD := bB_ BD hb; replace BN := bB_ BN hb; replace BKa := bB_ BKa hb; replace BKb := bB_ BKb hb; replace HO9 := a_ (Kd.R_below (by refine rq_ ?_; exact HO9.out) hb); replace HB := hB_ (bl_2 HB GEa GEb) hb; clear hb hbox hg; have hn1 := NBa_c.out; have hn2 := NBc_a.out; have hn3 := NBb_c.out; have hn4 := NBc_b.out; have hn5 := NBa_b.out; have hn6 := NBb_a.out; clear hca_0 hca_1 hca_2 hfa_0 hfa_1 hfa_2 hcr; obtain ⟨hcza_0, hcza_1, hcza_2, hfza_0, hfza_1, hfza_2⟩ := c3_ BKa; obtain ⟨hczb_0, hczb_1, hczb_2, hfzb_0, hfzb_1, hfzb_2⟩ := c3_ BKb; obtain ⟨hczc_0, hczc_1, hczc_2, hfzc_0, hfzc_1, hfzc_2⟩ := c3_ BKc))
    refine bodyPost_ret (results_ct rfl _ _ gb 24 #[.slice A9 x1.length c9, .bool x2, .int .i64 x3] (0, 0) _ rfl (bp_1 BKb NBb_c) Try.underlying24 rfl (by kernel_rfl)) rfl ?_
    exact ⟨_, fz_, by refine rq_ ?_; exact Kd.R_mono (Kd.R_far (p := ⟨gb, 2, none⟩) (Kd.R_far (p := ⟨gb, 1, none⟩) (Kd.R_far (p := ⟨gb, 0, none⟩) (Kd.R_far (p := ⟨gc, 2, none⟩) (Kd.R_far (p := ⟨gc, 1, none⟩) (Kd.R_far (p := ⟨gc, 0, none⟩) (Kd.R_types (Kd.R_types HO9.out BKb.out (by decide)) BKc.out (by decide)) (fun _ hk => hk.2) _) (fun _ hk => hk.2) _) (fun _ hk => hk.2) _) (fun _ hk => hk.1.2) _) (fun _ hk => hk.1.2) _) (fun _ hk => hk.1.2) _) (fun _ hk => trivial), bl_3 HB GEa GEb GEc⟩
  · obtain ⟨⟨x1, x2, x3, x4⟩, A10, H⟩ := Option.bind_eq_some_iff.mp (show (disk_Swap.f k l_ b_ i_ tm nm).bind _ = some _ from H1.out)
    have A1 := a_ A10
    clear A10 H' H1
    try dsimp only at H
    obtain ⟨Ao, co, eo⟩ := Kd.R_slice HO.out
    subst eo
    obtain ⟨hca_0, hca_1, hca_2, hfa_0, hfa_1, hfa_2⟩ := c3_ BKa
    have hcr := (blk_cell BR.out 2).trans rfl
    by_cases c4 : x4 = 0
    ·rw [if_pos c4] at H
     have c4b0 : (x4 == 0) = true := beq_iff_eq.mpr c4
     have c4b1 : (x4 != 0) = false := bne_eq_false_iff_eq.mpr c4
     clear c4
     have H2 := a_ H
     clear H
     go_wp2_with (first | (go_at_call 73; (with_reducible refine (hard_Put_3.calls k gt gn Ao co l_ b_ i_ tm nm x1 x2 x3 x4 _ ?bx ?bz ?s1 ?s2 A1.out).mono ?_); (case bx => exact bk_ BT); (case bz => exact bk_ BN); (case s1 => exact cl_ ((Kd.R_reads' HO.out).2.2)); (case s2 => exact (Kd.R_reads' HO.out).2.1); rintro e w9 ⟨v9, rfl, ho0, hb⟩; have HO9 := a_ (Kd.R_lower ho0 (below_size (bl_2 HB GEa GEb))); replace BR := bB_ BR hb; replace BT := bB_ BT hb; replace BD := bB_ BD hb; replace BN := bB_ BN hb; replace BKa := bB_ BKa hb; replace BKb := bB_ BKb hb; replace HB := hB_ (bl_2 HB GEa GEb) hb; clear hb ho0; obtain ⟨A9, c9, e9⟩ := Kd.R_slice HO9.out; subst e9) | ((with_reducible refine gd_ 8 ?_); refine bx_ 8 #[.slice none 0 0, .bool false, .int .i64 0] 24 ?_; intro gc hg w_ hbox hb; have BKc := a_ (hbox); have GEc := a_ (bs_2 hg HB GEa GEb); have NBa_c := nB_ hg BKa; have NBc_a := nC_ hg BKa; have NBb_c := nB_ hg BKb; have NBc_b := nC_ hg BKb; have NBr_c := nB_ hg BR; have NBt_c := nB_ hg BT; have NBd_c := nB_ hg BD; have NBn_c := nB_ hg BN; replace BR := bB_ BR hb; replace BT := bB_ BT hb; replace BD := bB_ BD hb; replace BN := bB_ BN hb; replace BKa := bB_ BKa hb; replace BKb := bB_ BKb hb; replace HO9 := a_ (Kd.R_below (by refine rq_ ?_; exact HO9.out) hb); replace HB := hB_ (bl_2 HB GEa GEb) hb; clear hb hbox hg; have hn1 := NBa_c.out; have hn2 := NBc_a.out; have hn3 := NBb_c.out; have hn4 := NBc_b.out; have hn5 := NBa_b.out; have hn6 := NBb_a.out; clear hca_0 hca_1 hca_2 hfa_0 hfa_1 hfa_2 hcr; obtain ⟨hcza_0, hcza_1, hcza_2, hfza_0, hfza_1, hfza_2⟩ := c3_ BKa; obtain ⟨hczb_0, hczb_1, hczb_2, hfzb_0, hfzb_1, hfzb_2⟩ := c3_ BKb; obtain ⟨hczc_0, hczc_1, hczc_2, hfzc_0, hfzc_1, hfzc_2⟩ := c3_ BKc))
     go_roundg 1
     case measure => omega
     case rel => exact ⟨⟨bp_2 BR NBr_a NBr_c⟩, ⟨bp_2 BT NBt_a NBt_c⟩, ⟨bp_2 BD NBd_a NBd_c⟩, ⟨bp_2 BN NBn_a NBn_c⟩, ⟨bp_2 BKb NBb_a NBb_c⟩, ⟨bl_3 HB GEa GEb GEc⟩, .inr (.inr (.inr ⟨rfl, by first | rfl | (simp; done), _, x1, x2, x3, ⟨bp_1 BKa NBa_c⟩, ⟨by refine rq_ ?_; exact Kd.R_mono (Kd.R_far (p := ⟨ga, 2, none⟩) (Kd.R_far (p := ⟨ga, 1, none⟩) (Kd.R_far (p := ⟨ga, 0, none⟩) (Kd.R_far (p := ⟨gc, 2, none⟩) (Kd.R_far (p := ⟨gc, 1, none⟩) (Kd.R_far (p := ⟨gc, 0, none⟩) (Kd.R_types (Kd.R_types HO9.out BKa.out (by decide)) BKc.out (by decide)) (fun _ hk => hk.2) _) (fun _ hk => hk.2) _) (fun _ hk => hk.2) _) (fun _ hk => hk.1.2) _) (fun _ hk => hk.1.2) _) (fun _ hk => hk.1.2) _) (fun _ hk => trivial)⟩, H2⟩))⟩
    rw [if_neg c4] at H
    have c4b0 : (x4 == 0) = false := beq_eq_false_iff_ne.mpr c4
    have c4b1 : (x4 != 0) = true := bne_iff_ne.mpr c4
    clear c4
    simp only [Option.some.injEq, Prod.mk.injEq] at H
    obtain ⟨rfl, rfl, rfl, rfl⟩ := H
    go_wp2_with (first | (go_at_call 73; (with_reducible refine (hard_Put_3.calls k gt gn Ao co l_ b_ i_ tm nm x1 x2 x3 x4 _ ?bx ?bz ?s1 ?s2 A1.out).mono ?_); (case bx => exact bk_ BT); (case bz => exact bk_ BN); (case s1 => exact cl_ ((Kd.R_reads' HO.out).2.2)); (case s2 => exact (Kd.R_reads' HO.out).2.1); rintro e w9 ⟨v9, rfl, ho0, hb⟩; have HO9 := a_ (Kd.R_lower ho0 (below_size (bl_2 HB GEa GEb))); replace BR := bB_ BR hb; replace BT := bB_ BT hb; replace BD := bB_ BD hb; replace BN := bB_ BN hb; replace BKa := bB_ BKa hb; replace BKb := bB_ BKb hb; replace HB := hB_ (bl_2 HB GEa GEb) hb; clear hb ho0; obtain ⟨A9, c9, e9⟩ := Kd.R_slice HO9.out; subst e9) | ((with_reducible refine gd_ 8 ?_); refine bx_ 8 #[.slice none 0 0, .bool false, .int .i64 0] 24 ?_; intro gc hg w_ hbox hb; have BKc := a_ (hbox); have GEc := a_ (bs_2 hg HB GEa GEb); have NBa_c := nB_ hg BKa; have NBc_a := nC_ hg BKa; have NBb_c := nB_ hg BKb; have NBc_b := nC_ hg BKb; have NBr_c := nB_ hg BR; have NBt_c := nB_ hg BT; have NBd_c := nB_ hg BD; have NBn_c := nB_ hg BN; replace BR := bB_ BR hb; replace BT := bB_ BT hb; replace BD := bB_ BD hb; replace BN := bB_ BN hb; replace BKa := bB_ BKa hb; replace BKb := bB_ BKb hb; replace HO9 := a_ (Kd.R_below (by refine rq_ ?_; exact HO9.out) hb); replace HB := hB_ (bl_2 HB GEa GEb) hb; clear hb hbox hg; have hn1 := NBa_c.out; have hn2 := NBc_a.out; have hn3 := NBb_c.out; have hn4 := NBc_b.out; have hn5 := NBa_b.out; have hn6 := NBb_a.out; clear hca_0 hca_1 hca_2 hfa_0 hfa_1 hfa_2 hcr; obtain ⟨hcza_0, hcza_1, hcza_2, hfza_0, hfza_1, hfza_2⟩ := c3_ BKa; obtain ⟨hczb_0, hczb_1, hczb_2, hfzb_0, hfzb_1, hfzb_2⟩ := c3_ BKb; obtain ⟨hczc_0, hczc_1, hczc_2, hfzc_0, hfzc_1, hfzc_2⟩ := c3_ BKc))
    refine bodyPost_ret (results_ct rfl _ _ gb 24 #[.slice A9 x1.length c9, .bool x2, .int .i64 x3] (0, 0) _ rfl (bp_1 BKb NBb_c) Try.underlying24 rfl (by kernel_rfl)) rfl ?_
    exact ⟨_, fz_, by refine rq_ ?_; exact Kd.R_mono (Kd.R_far (p := ⟨gb, 2, none⟩) (Kd.R_far (p := ⟨gb, 1, none⟩) (Kd.R_far (p := ⟨gb, 0, none⟩) (Kd.R_far (p := ⟨gc, 2, none⟩) (Kd.R_far (p := ⟨gc, 1, none⟩) (Kd.R_far (p := ⟨gc, 0, none⟩) (Kd.R_types (Kd.R_types HO9.out BKb.out (by decide)) BKc.out (by decide)) (fun _ hk => hk.2) _) (fun _ hk => hk.2) _) (fun _ hk => hk.2) _) (fun _ hk => hk.1.2) _) (fun _ hk => hk.1.2) _) (fun _ hk => hk.1.2) _) (fun _ hk => trivial), bl_3 HB GEa GEb GEc⟩
  · have H := H1.out
    clear H1 H'
    simp only [Option.some.injEq, Prod.mk.injEq] at H
    obtain ⟨rfl, rfl, rfl, rfl⟩ := H
    obtain ⟨Ao, co, eo⟩ := Kd.R_slice HO.out
    subst eo
    obtain ⟨hca_0, hca_1, hca_2, hfa_0, hfa_1, hfa_2⟩ := c3_ BKa
    obtain ⟨hcb_0, hcb_1, hcb_2, hfb_0, hfb_1, hfb_2⟩ := c3_ BKb
    have hn1 := NBa_b.out
    have hn2 := NBb_a.out
    go_wp2
    refine bodyPost_ret (results_ct rfl _ _ gb 24 #[.slice Ao l_.length co, .bool b_, .int .i64 i_] (0, 0) _ rfl (bp_0 BKb) Try.underlying24 rfl (by kernel_rfl)) rfl ?_
    exact ⟨_, fz_, by refine rq_ ?_; exact Kd.R_mono (Kd.R_far (p := ⟨gb, 2, none⟩) (Kd.R_far (p := ⟨gb, 1, none⟩) (Kd.R_far (p := ⟨gb, 0, none⟩) (Kd.R_types HO.out BKb.out (by decide)) (fun _ hk => hk.2) _) (fun _ hk => hk.2) _) (fun _ hk => hk.2) _) (fun _ hk => trivial), bl_2 HB GEa GEb⟩

def hard_Put.f (k : Nat) (l0_0 : List (S71)) (a0_1 : Bool) (a0_2 : Int) (nm dt : ByteArray) : Option ((List (S71)) × Bool × Int × Int) := if nm.size + 4 ≤ 9223372036854775807 then ((disk_Read.f k l0_0 a0_1 a0_2 (nm ++ (⟨#[46, 116, 109, 112]⟩ : ByteArray))).bind fun t => if t.2 = 0 then ((disk_Drop.f k l0_0 a0_1 a0_2 (nm ++ (⟨#[46, 116, 109, 112]⟩ : ByteArray))).bind fun x => if x.2.2.2 = 0 then hard_all.f k (nm ++ (⟨#[46, 116, 109, 112]⟩ : ByteArray)) nm dt x.1 x.2.1 x.2.2.1 else some (x.1, x.2.1, x.2.2.1, x.2.2.2)) else hard_all.f k (nm ++ (⟨#[46, 116, 109, 112]⟩ : ByteArray)) nm dt l0_0 a0_1 a0_2) else none
theorem hard_Put.mono : ∀ a0 a1 a2 a3 a4 k, LeO (hard_Put.f k a0 a1 a2 a3 a4) (hard_Put.f (k + 1) a0 a1 a2 a3 a4) := fun a0 a1 a2 a3 a4 k => LeO.ite (LeO.bind (disk_Read.mono _ _ _ _ k) (fun _ => LeO.ite (LeO.bind (disk_Drop.mono _ _ _ _ k) (fun _ => LeO.ite (hard_all.mono _ _ _ _ _ _ k) (LeO.refl _))) (hard_all.mono _ _ _ _ _ _ k))) (LeO.none _)
theorem slice_event_ {P : Program} {ops : Array Oper} {rest : List Oper} {o : Oper} {a : Act} {Q : Exit → Act → World → Prop} {W : World} (hgd : o.guard = none) {N : Tmp} (_hd : o.dst = some N) {cs : Array Value} {t : TypeId} {m c : Nat}
    (hrun : (execOp a.eval o).run P W = .ok (.value (.slice (some ⟨W.heap.size, 0, none⟩) m c)) (W.alloc (.cells cs t (0, 0))))
    (h : ∀ g, g = W.heap.size → ∀ w1, w1.heap[g]? = some (.cells cs t (0, 0)) → Below W.heap.size W w1 → wpList P ops Q rest (a.put o.dst (.slice (some ⟨g, 0, none⟩) m c)) w1) : wpList P ops Q (o :: rest) a W := Kd.event_run hgd hrun (h _ rfl _ (blk_new W _) (below_alloc (Below.refl _ _) _))
theorem hard_Put.calls (k : Nat) (A0_0 : Option Addr) (c0_0 : Nat) (l0_0 : List (S71)) (a0_1 : Bool) (a0_2 : Int) (nm dt : ByteArray) (r1 : List (S71)) (r2 : Bool) (r3 : Int) (r4 : Int) (w : World) (hr0_0 : Kd.C k71 w A0_0 l0_0.length l0_0) (hc0_0 : l0_0.length ≤ c0_0) (h : hard_Put.f k l0_0 a0_1 a0_2 nm dt = some (r1, r2, r3, r4)) :
  Calls Try.prog 45 #[.agg #[.slice A0_0 l0_0.length c0_0, .bool a0_1, .int .i64 a0_2], .string nm, .string dt] w fun e w' => ∃ v0_ : Value, e = .returned (.tuple #[.agg #[v0_, .bool r2, .int .i64 r3], .int .i64 r4]) ∧ Kd.R k71 71 w' w.heap.size (fun _ => True) v0_ r1 ∧ Below w.heap.size w w' := by
 have hu24 := Try.underlying24
 have HR0_0 := a_ hr0_0
 have HC0_0 := a_ hc0_0
 clear hr0_0 hc0_0
 have HB := a_ (Below.refl w.heap.size w)
 have H : (if nm.size + 4 ≤ 9223372036854775807 then ((disk_Read.f k l0_0 a0_1 a0_2 (nm ++ (⟨#[46, 116, 109, 112]⟩ : ByteArray))).bind fun t => if t.2 = 0 then ((disk_Drop.f k l0_0 a0_1 a0_2 (nm ++ (⟨#[46, 116, 109, 112]⟩ : ByteArray))).bind fun x => if x.2.2.2 = 0 then hard_all.f k (nm ++ (⟨#[46, 116, 109, 112]⟩ : ByteArray)) nm dt x.1 x.2.1 x.2.2.1 else some (x.1, x.2.1, x.2.2.1, x.2.2.2)) else hard_all.f k (nm ++ (⟨#[46, 116, 109, 112]⟩ : ByteArray)) nm dt l0_0 a0_1 a0_2) else none) = some (r1, r2, r3, r4) := h
 clear h
 by_cases c3 : nm.size + 4 ≤ 9223372036854775807
 case neg =>
  rw [if_neg c3] at H
  exact absurd H (by simp)
 case pos =>
  rw [if_pos c3] at H
  have c3b0 := eq_true c3
  have c3b1 : decide (nm.size + 4 ≤ 9223372036854775807) = true := decide_eq_true c3
  have c3b2 : (9223372036854775807 < nm.size + 4) = False := eq_false (Nat.not_lt.2 c3)
  clear c3
  obtain ⟨⟨t1, t2⟩, A10, H⟩ := Option.bind_eq_some_iff.mp H
  have A1 := a_ A10
  clear A10
  by_cases c4 : t2 = 0
  case neg =>
   replace H : hard_all.f k (nm ++ (⟨#[46, 116, 109, 112]⟩ : ByteArray)) nm dt l0_0 a0_1 a0_2 = some (r1, r2, r3, r4) := by rw [if_neg c4] at H; exact H
   have c4b0 : (t2 == 0) = false := beq_eq_false_iff_ne.mpr c4
   have c4b1 : (t2 != 0) = true := bne_iff_ne.mpr c4
   clear c4
   have A3 := a_ H
   clear H
   go_enter Try.func45, Try.ntmps45
   go_wp2_with (first | ((with_reducible refine gd_ 3 ?_); refine bx_ 3 #[.slice A0_0 l0_0.length c0_0, .bool a0_1, .int .i64 a0_2] 24 ?_; intro ga hg w_ hbox hb; have BKa := a_ (hbox); have GEa := a_ (bs_0 hg HB ); replace HB := hB_ (bl_ HB) hb; clear hb hbox hg) | ((with_reducible refine gd_ 4 ?_); refine bx_ 4 #[.string nm] 9 ?_; intro gn hg w_ hbox hb; have BKn := a_ (hbox); have GEn := a_ (bs_1 hg HB GEa); have NBn_a := nC_ hg BKa; replace BKa := bB_ BKa hb; replace HB := hB_ (bl_1 HB GEa) hb; clear hb hbox hg) | ((with_reducible refine gd_ 5 ?_); refine bx_ 5 #[.string dt] 9 ?_; intro gy hg w_ hbox hb; have BKy := a_ (hbox); have GEy := a_ (bs_2 hg HB GEa GEn); have NBy_a := nC_ hg BKa; replace BKa := bB_ BKa hb; replace BKn := bB_ BKn hb; replace HB := hB_ (bl_2 HB GEa GEn) hb; clear hb hbox hg) | ((with_reducible refine gd_ 6 ?_); refine bx_ 6 #[.slice none 0 0, .bool false, .int .i64 0] 24 ?_; intro gr hg w_ hbox hb; have BKr := a_ (hbox); have GEr := a_ (bs_3 hg HB GEa GEn GEy); have NBr_a := nC_ hg BKa; replace BKa := bB_ BKa hb; replace BKn := bB_ BKn hb; replace BKy := bB_ BKy hb; replace HB := hB_ (bl_3 HB GEa GEn GEy) hb; clear hb hbox hg; obtain ⟨hczn, hfzn⟩ := c1_ BKn) | ((with_reducible refine gd_ 8 ?_); refine bx_ 8 #[.string (⟨#[]⟩ : ByteArray)] 9 ?_; intro gt hg w_ hbox hb; have BKt := a_ (hbox); have GEt := a_ (bs_4 hg HB GEa GEn GEy GEr); have NBa_t := nB_ hg BKa; have NBt_a := nC_ hg BKa; have NBn_t := nB_ hg BKn; have NBt_n := nC_ hg BKn; have NBy_t := nB_ hg BKy; have NBt_y := nC_ hg BKy; have NBr_t := nB_ hg BKr; have NBt_r := nC_ hg BKr; replace BKa := bB_ BKa hb; replace BKn := bB_ BKn hb; replace BKy := bB_ BKy hb; replace BKr := bB_ BKr hb; replace HB := hB_ (bl_4 HB GEa GEn GEy GEr) hb; clear hb hbox hg; have hna1 := NBa_t.out; have hna2 := NBt_a.out; have hnn1 := NBn_t.out; have hnn2 := NBt_n.out; have hny1 := NBy_t.out; have hny2 := NBt_y.out; have hnr1 := NBr_t.out; have hnr2 := NBt_r.out; obtain ⟨hczt, hfzt⟩ := c1_ BKt; obtain ⟨hcza_0, hcza_1, hcza_2, hfza_0, hfza_1, hfza_2⟩ := c3_ BKa) | ((with_reducible refine gk_ 24 ?_); refine gl_ (some 18) Try.func24 #[.agg #[.slice A0_0 l0_0.length c0_0, .bool a0_1, .int .i64 a0_2], .string (nm ++ (⟨#[46, 116, 109, 112]⟩ : ByteArray))] ?_; (with_reducible refine (disk_Read.calls k _ _ l0_0 a0_1 a0_2 (nm ++ (⟨#[46, 116, 109, 112]⟩ : ByteArray)) t1 t2 _ ?side1 ?side2 A1.out).mono ?_); (case side1 => exact Kd.C_below HR0_0.out (bl_5 HB GEa GEn GEy GEr GEt)); (case side2 => exact HC0_0.out); rintro e w9 ⟨rfl, hb⟩; refine ⟨_, rfl, ?_⟩; have Na : Aside0 (w9.heap[ga]? = some (.cells #[.slice A0_0 l0_0.length c0_0, .bool a0_1, .int .i64 a0_2] 24 (0, 0))) := ⟨blk_below (bp_1 BKa NBa_t) hb⟩; have Nn : Aside0 (w9.heap[gn]? = some (.cells #[.string nm] 9 (0, 0))) := ⟨blk_below (bp_1 BKn NBn_t) hb⟩; have Ny : Aside0 (w9.heap[gy]? = some (.cells #[.string dt] 9 (0, 0))) := ⟨blk_below (bp_1 BKy NBy_t) hb⟩; have Nr : Aside0 (w9.heap[gr]? = some (.cells #[.slice none 0 0, .bool false, .int .i64 0] 24 (0, 0))) := ⟨blk_below (bp_1 BKr NBr_t) hb⟩; have Nt : Aside0 (w9.heap[gt]? = some (.cells #[.string (nm ++ (⟨#[46, 116, 109, 112]⟩ : ByteArray))] 9 (0, 0))) := ⟨blk_below (bp_0 BKt) hb⟩; clear BKa BKn BKy BKr BKt; have BKa := Na; have BKn := Nn; have BKy := Ny; have BKr := Nr; have BKt := Nt; clear Na Nn Ny Nr Nt; replace HB := hB_ (bl_5 HB GEa GEn GEy GEr GEt) hb; clear hb; obtain ⟨hczb_0, hczb_1, hczb_2, hfzb_0, hfzb_1, hfzb_2⟩ := c3_ BKa; obtain ⟨hczt2, hfzt2⟩ := c1_ BKt) | ((with_reducible refine gd_ 38 ?_); refine slice_event_ ?hg (N := 38) ?hd (cs := #[.func (.func 69) #[] #[.pointer (some ⟨gt, 0, none⟩), .pointer (some ⟨gy, 0, none⟩)], .func (.func 71) #[] #[.pointer (some ⟨gt, 0, none⟩)], .func (.func 73) #[] #[.pointer (some ⟨gt, 0, none⟩), .pointer (some ⟨gn, 0, none⟩)]]) (t := 95) (m := 3) (c := 3) ?hr ?_; (case hd => rfl); (case hg => rfl); (case hr => first | (go_simp; done) | (go_simp; rfl)); intro gq hg w_ hbox hb; have BKq := a_ (hbox); have Nn : Aside0 (w_.heap[gn]? = some (.cells #[.string nm] 9 (0, 0))) := ⟨blk_below (bk_ BKn) hb⟩; have Ny : Aside0 (w_.heap[gy]? = some (.cells #[.string dt] 9 (0, 0))) := ⟨blk_below (bk_ BKy) hb⟩; have Nt : Aside0 (w_.heap[gt]? = some (.cells #[.string (nm ++ (⟨#[46, 116, 109, 112]⟩ : ByteArray))] 9 (0, 0))) := ⟨blk_below (bk_ BKt) hb⟩; have Nr : Aside0 (w_.heap[gr]? = some (.cells #[.slice none 0 0, .bool false, .int .i64 0] 24 (0, 0))) := ⟨blk_below (bk_ BKr) hb⟩; clear BKn BKy BKt BKr; have BKn := Nn; have BKy := Ny; have BKt := Nt; have BKr := Nr; clear Nn Ny Nt Nr;  replace HB := hB_ (bl_5 HB GEa GEn GEy GEr GEt) hb; clear hb hbox hg) | ((with_reducible refine gk_ 68 ?_); refine gl_ (some 39) Try.func68 #[.agg #[.slice A0_0 l0_0.length c0_0, .bool a0_1, .int .i64 a0_2], .slice (some ⟨gq, 0, none⟩) 3 3] ?_; (with_reducible refine (hard_all.calls k gq gt gy gn _ _ l0_0 a0_1 a0_2 (nm ++ (⟨#[46, 116, 109, 112]⟩ : ByteArray)) nm dt r1 r2 r3 r4 _ ?hq ?ht ?hd ?hn ?side1 ?side2 A3.out).mono ?_); (case hq => exact bk_ BKq); (case ht => exact bk_ BKt); (case hd => exact bk_ BKy); (case hn => exact bk_ BKn); (case side1 => exact cl_ (Kd.C_below HR0_0.out HB.out)); (case side2 => exact HC0_0.out); rintro e w9 ⟨v9, rfl, ho0, hb⟩; refine ⟨_, rfl, ?_⟩; have HOz := a_ (Kd.R_lower ho0 (below_size (bl_5 HB GEa GEn GEy GEr GEt))); replace BKr := bB_ BKr hb; replace HB := hB_ (bl_5 HB GEa GEn GEy GEr GEt) hb; clear hb ho0; obtain ⟨Az, cz, ez⟩ := Kd.R_slice HOz.out; subst ez; obtain ⟨hczq_0, hczq_1, hczq_2, hfzq_0, hfzq_1, hfzq_2⟩ := c3_ BKr))
   refine bodyPost_ret (results_ct rfl _ _ gr 24 #[.slice Az r1.length cz, .bool r2, .int .i64 r3] (0, 0) _ rfl (bp_0 BKr) Try.underlying24 rfl (by kernel_rfl)) rfl ?_
   exact ⟨_, fz_, by refine rq_ ?_; exact Kd.R_mono (Kd.R_far (p := ⟨gr, 2, none⟩) (Kd.R_far (p := ⟨gr, 1, none⟩) (Kd.R_far (p := ⟨gr, 0, none⟩) (Kd.R_types HOz.out BKr.out (by decide)) (fun _ hk => hk.2) _) (fun _ hk => hk.2) _) (fun _ hk => hk.2) _) (fun _ hk => trivial), bl_5 HB GEa GEn GEy GEr GEt⟩
  case pos =>
   replace H : ((disk_Drop.f k l0_0 a0_1 a0_2 (nm ++ (⟨#[46, 116, 109, 112]⟩ : ByteArray))).bind fun x => if x.2.2.2 = 0 then hard_all.f k (nm ++ (⟨#[46, 116, 109, 112]⟩ : ByteArray)) nm dt x.1 x.2.1 x.2.2.1 else some (x.1, x.2.1, x.2.2.1, x.2.2.2)) = some (r1, r2, r3, r4) := by rw [if_pos c4] at H; exact H
   have c4b0 : (t2 == 0) = true := beq_iff_eq.mpr c4
   have c4b1 : (t2 != 0) = false := bne_eq_false_iff_eq.mpr c4
   clear c4
   obtain ⟨⟨x1, x2, x3, x4⟩, A20, H⟩ := Option.bind_eq_some_iff.mp H
   have A2 := a_ A20
   clear A20
   try dsimp only at H
   by_cases c5 : x4 = 0
   case neg =>
    have c5b0 : (x4 == 0) = false := beq_eq_false_iff_ne.mpr c5
    have c5b1 : (x4 != 0) = true := bne_iff_ne.mpr c5
    rw [if_neg c5] at H
    clear c5
    simp only [Option.some.injEq, Prod.mk.injEq] at H
    obtain ⟨rfl, rfl, rfl, rfl⟩ := H
    go_enter Try.func45, Try.ntmps45
    go_wp2_with (first | ((with_reducible refine gd_ 3 ?_); refine bx_ 3 #[.slice A0_0 l0_0.length c0_0, .bool a0_1, .int .i64 a0_2] 24 ?_; intro ga hg w_ hbox hb; have BKa := a_ (hbox); have GEa := a_ (bs_0 hg HB ); replace HB := hB_ (bl_ HB) hb; clear hb hbox hg) | ((with_reducible refine gd_ 4 ?_); refine bx_ 4 #[.string nm] 9 ?_; intro gn hg w_ hbox hb; have BKn := a_ (hbox); have GEn := a_ (bs_1 hg HB GEa); have NBn_a := nC_ hg BKa; replace BKa := bB_ BKa hb; replace HB := hB_ (bl_1 HB GEa) hb; clear hb hbox hg) | ((with_reducible refine gd_ 5 ?_); refine bx_ 5 #[.string dt] 9 ?_; intro gy hg w_ hbox hb; have BKy := a_ (hbox); have GEy := a_ (bs_2 hg HB GEa GEn); have NBy_a := nC_ hg BKa; replace BKa := bB_ BKa hb; replace BKn := bB_ BKn hb; replace HB := hB_ (bl_2 HB GEa GEn) hb; clear hb hbox hg) | ((with_reducible refine gd_ 6 ?_); refine bx_ 6 #[.slice none 0 0, .bool false, .int .i64 0] 24 ?_; intro gr hg w_ hbox hb; have BKr := a_ (hbox); have GEr := a_ (bs_3 hg HB GEa GEn GEy); have NBr_a := nC_ hg BKa; replace BKa := bB_ BKa hb; replace BKn := bB_ BKn hb; replace BKy := bB_ BKy hb; replace HB := hB_ (bl_3 HB GEa GEn GEy) hb; clear hb hbox hg; obtain ⟨hczn, hfzn⟩ := c1_ BKn) | ((with_reducible refine gd_ 8 ?_); refine bx_ 8 #[.string (⟨#[]⟩ : ByteArray)] 9 ?_; intro gt hg w_ hbox hb; have BKt := a_ (hbox); have GEt := a_ (bs_4 hg HB GEa GEn GEy GEr); have NBa_t := nB_ hg BKa; have NBt_a := nC_ hg BKa; have NBn_t := nB_ hg BKn; have NBt_n := nC_ hg BKn; have NBy_t := nB_ hg BKy; have NBt_y := nC_ hg BKy; have NBr_t := nB_ hg BKr; have NBt_r := nC_ hg BKr; replace BKa := bB_ BKa hb; replace BKn := bB_ BKn hb; replace BKy := bB_ BKy hb; replace BKr := bB_ BKr hb; replace HB := hB_ (bl_4 HB GEa GEn GEy GEr) hb; clear hb hbox hg; have hna1 := NBa_t.out; have hna2 := NBt_a.out; have hnn1 := NBn_t.out; have hnn2 := NBt_n.out; have hny1 := NBy_t.out; have hny2 := NBt_y.out; have hnr1 := NBr_t.out; have hnr2 := NBt_r.out; obtain ⟨hczt, hfzt⟩ := c1_ BKt; obtain ⟨hcza_0, hcza_1, hcza_2, hfza_0, hfza_1, hfza_2⟩ := c3_ BKa) | ((with_reducible refine gk_ 24 ?_); refine gl_ (some 18) Try.func24 #[.agg #[.slice A0_0 l0_0.length c0_0, .bool a0_1, .int .i64 a0_2], .string (nm ++ (⟨#[46, 116, 109, 112]⟩ : ByteArray))] ?_; (with_reducible refine (disk_Read.calls k _ _ l0_0 a0_1 a0_2 (nm ++ (⟨#[46, 116, 109, 112]⟩ : ByteArray)) t1 t2 _ ?side1 ?side2 A1.out).mono ?_); (case side1 => exact Kd.C_below HR0_0.out (bl_5 HB GEa GEn GEy GEr GEt)); (case side2 => exact HC0_0.out); rintro e w9 ⟨rfl, hb⟩; refine ⟨_, rfl, ?_⟩; have Na : Aside0 (w9.heap[ga]? = some (.cells #[.slice A0_0 l0_0.length c0_0, .bool a0_1, .int .i64 a0_2] 24 (0, 0))) := ⟨blk_below (bp_1 BKa NBa_t) hb⟩; have Nn : Aside0 (w9.heap[gn]? = some (.cells #[.string nm] 9 (0, 0))) := ⟨blk_below (bp_1 BKn NBn_t) hb⟩; have Ny : Aside0 (w9.heap[gy]? = some (.cells #[.string dt] 9 (0, 0))) := ⟨blk_below (bp_1 BKy NBy_t) hb⟩; have Nr : Aside0 (w9.heap[gr]? = some (.cells #[.slice none 0 0, .bool false, .int .i64 0] 24 (0, 0))) := ⟨blk_below (bp_1 BKr NBr_t) hb⟩; have Nt : Aside0 (w9.heap[gt]? = some (.cells #[.string (nm ++ (⟨#[46, 116, 109, 112]⟩ : ByteArray))] 9 (0, 0))) := ⟨blk_below (bp_0 BKt) hb⟩; clear BKa BKn BKy BKr BKt; have BKa := Na; have BKn := Nn; have BKy := Ny; have BKr := Nr; have BKt := Nt; clear Na Nn Ny Nr Nt; replace HB := hB_ (bl_5 HB GEa GEn GEy GEr GEt) hb; clear hb; obtain ⟨hczb_0, hczb_1, hczb_2, hfzb_0, hfzb_1, hfzb_2⟩ := c3_ BKa; obtain ⟨hczt2, hfzt2⟩ := c1_ BKt) | ((with_reducible refine gk_ 67 ?_); refine gl_ (some 26) Try.func67 #[.agg #[.slice A0_0 l0_0.length c0_0, .bool a0_1, .int .i64 a0_2], .string (nm ++ (⟨#[46, 116, 109, 112]⟩ : ByteArray))] ?_; (with_reducible refine (disk_Drop.calls k _ _ l0_0 a0_1 a0_2 (nm ++ (⟨#[46, 116, 109, 112]⟩ : ByteArray)) x1 x2 x3 x4 _ ?side1 ?side2 A2.out).mono ?_); (case side1 => exact cl_ (Kd.C_below HR0_0.out HB.out)); (case side2 => exact HC0_0.out); rintro e w9 ⟨v9, rfl, ho0, hb⟩; refine ⟨_, rfl, ?_⟩; have HO9 := a_ (Kd.R_lower ho0 (below_size (bl_5 HB GEa GEn GEy GEr GEt))); replace BKa := bB_ BKa hb; replace BKn := bB_ BKn hb; replace BKy := bB_ BKy hb; replace BKr := bB_ BKr hb; replace BKt := bB_ BKt hb; replace HB := hB_ (bl_5 HB GEa GEn GEy GEr GEt) hb; clear hb ho0; obtain ⟨A9, c9, e9⟩ := Kd.R_slice HO9.out; subst e9) | ((with_reducible refine gd_ 11 ?_); refine bx_ 11 #[.slice none 0 0, .bool false, .int .i64 0] 24 ?_; intro gc hg w_ hbox hb; have BKc := a_ (hbox); have GEc := a_ (bs_5 hg HB GEa GEn GEy GEr GEt); have NBa_c := nB_ hg BKa; have NBc_a := nC_ hg BKa; have NBn_c := nB_ hg BKn; have NBc_n := nC_ hg BKn; have NBy_c := nB_ hg BKy; have NBc_y := nC_ hg BKy; have NBr_c := nB_ hg BKr; have NBc_r := nC_ hg BKr; have NBt_c := nB_ hg BKt; have NBc_t := nC_ hg BKt; replace BKa := bB_ BKa hb; replace BKn := bB_ BKn hb; replace BKy := bB_ BKy hb; replace BKr := bB_ BKr hb; replace BKt := bB_ BKt hb; replace HO9 := a_ (Kd.R_below (by refine rq_ ?_; exact HO9.out) hb); replace HB := hB_ (bl_5 HB GEa GEn GEy GEr GEt) hb; clear hb hbox hg; have hma1 := NBa_c.out; have hma2 := NBc_a.out; have hmn1 := NBn_c.out; have hmn2 := NBc_n.out; have hmy1 := NBy_c.out; have hmy2 := NBc_y.out; have hmr1 := NBr_c.out; have hmr2 := NBc_r.out; have hmt1 := NBt_c.out; have hmt2 := NBc_t.out; obtain ⟨hczc_0, hczc_1, hczc_2, hfzc_0, hfzc_1, hfzc_2⟩ := c3_ BKc; obtain ⟨hczd_0, hczd_1, hczd_2, hfzd_0, hfzd_1, hfzd_2⟩ := c3_ BKa; obtain ⟨hcze_0, hcze_1, hcze_2, hfze_0, hfze_1, hfze_2⟩ := c3_ BKr; obtain ⟨hczf, hfzf⟩ := c1_ BKt))
    refine bodyPost_ret (results_ct rfl _ _ gr 24 #[.slice A9 x1.length c9, .bool x2, .int .i64 x3] (0, 0) _ rfl (bp_1 BKr NBr_c) Try.underlying24 rfl (by kernel_rfl)) rfl ?_
    exact ⟨_, fz_, by refine rq_ ?_; exact Kd.R_mono (Kd.R_far (p := ⟨gr, 2, none⟩) (Kd.R_far (p := ⟨gr, 1, none⟩) (Kd.R_far (p := ⟨gr, 0, none⟩) (Kd.R_far (p := ⟨gc, 2, none⟩) (Kd.R_far (p := ⟨gc, 1, none⟩) (Kd.R_far (p := ⟨gc, 0, none⟩) (Kd.R_types (Kd.R_types HO9.out BKr.out (by decide)) BKc.out (by decide)) (fun _ hk => hk.2) _) (fun _ hk => hk.2) _) (fun _ hk => hk.2) _) (fun _ hk => hk.1.2) _) (fun _ hk => hk.1.2) _) (fun _ hk => hk.1.2) _) (fun _ hk => trivial), bl_6 HB GEa GEn GEy GEr GEt GEc⟩
   case pos =>
    have c5b0 : (x4 == 0) = true := beq_iff_eq.mpr c5
    have c5b1 : (x4 != 0) = false := bne_eq_false_iff_eq.mpr c5
    rw [if_pos c5] at H
    clear c5
    have A3 := a_ H
    clear H
    go_enter Try.func45, Try.ntmps45
    go_wp2_with (first | ((with_reducible refine gd_ 3 ?_); refine bx_ 3 #[.slice A0_0 l0_0.length c0_0, .bool a0_1, .int .i64 a0_2] 24 ?_; intro ga hg w_ hbox hb; have BKa := a_ (hbox); have GEa := a_ (bs_0 hg HB ); replace HB := hB_ (bl_ HB) hb; clear hb hbox hg) | ((with_reducible refine gd_ 4 ?_); refine bx_ 4 #[.string nm] 9 ?_; intro gn hg w_ hbox hb; have BKn := a_ (hbox); have GEn := a_ (bs_1 hg HB GEa); have NBn_a := nC_ hg BKa; replace BKa := bB_ BKa hb; replace HB := hB_ (bl_1 HB GEa) hb; clear hb hbox hg) | ((with_reducible refine gd_ 5 ?_); refine bx_ 5 #[.string dt] 9 ?_; intro gy hg w_ hbox hb; have BKy := a_ (hbox); have GEy := a_ (bs_2 hg HB GEa GEn); have NBy_a := nC_ hg BKa; replace BKa := bB_ BKa hb; replace BKn := bB_ BKn hb; replace HB := hB_ (bl_2 HB GEa GEn) hb; clear hb hbox hg) | ((with_reducible refine gd_ 6 ?_); refine bx_ 6 #[.slice none 0 0, .bool false, .int .i64 0] 24 ?_; intro gr hg w_ hbox hb; have BKr := a_ (hbox); have GEr := a_ (bs_3 hg HB GEa GEn GEy); have NBr_a := nC_ hg BKa; replace BKa := bB_ BKa hb; replace BKn := bB_ BKn hb; replace BKy := bB_ BKy hb; replace HB := hB_ (bl_3 HB GEa GEn GEy) hb; clear hb hbox hg; obtain ⟨hczn, hfzn⟩ := c1_ BKn) | ((with_reducible refine gd_ 8 ?_); refine bx_ 8 #[.string (⟨#[]⟩ : ByteArray)] 9 ?_; intro gt hg w_ hbox hb; have BKt := a_ (hbox); have GEt := a_ (bs_4 hg HB GEa GEn GEy GEr); have NBa_t := nB_ hg BKa; have NBt_a := nC_ hg BKa; have NBn_t := nB_ hg BKn; have NBt_n := nC_ hg BKn; have NBy_t := nB_ hg BKy; have NBt_y := nC_ hg BKy; have NBr_t := nB_ hg BKr; have NBt_r := nC_ hg BKr; replace BKa := bB_ BKa hb; replace BKn := bB_ BKn hb; replace BKy := bB_ BKy hb; replace BKr := bB_ BKr hb; replace HB := hB_ (bl_4 HB GEa GEn GEy GEr) hb; clear hb hbox hg; have hna1 := NBa_t.out; have hna2 := NBt_a.out; have hnn1 := NBn_t.out; have hnn2 := NBt_n.out; have hny1 := NBy_t.out; have hny2 := NBt_y.out; have hnr1 := NBr_t.out; have hnr2 := NBt_r.out; obtain ⟨hczt, hfzt⟩ := c1_ BKt; obtain ⟨hcza_0, hcza_1, hcza_2, hfza_0, hfza_1, hfza_2⟩ := c3_ BKa) | ((with_reducible refine gk_ 24 ?_); refine gl_ (some 18) Try.func24 #[.agg #[.slice A0_0 l0_0.length c0_0, .bool a0_1, .int .i64 a0_2], .string (nm ++ (⟨#[46, 116, 109, 112]⟩ : ByteArray))] ?_; (with_reducible refine (disk_Read.calls k _ _ l0_0 a0_1 a0_2 (nm ++ (⟨#[46, 116, 109, 112]⟩ : ByteArray)) t1 t2 _ ?side1 ?side2 A1.out).mono ?_); (case side1 => exact Kd.C_below HR0_0.out (bl_5 HB GEa GEn GEy GEr GEt)); (case side2 => exact HC0_0.out); rintro e w9 ⟨rfl, hb⟩; refine ⟨_, rfl, ?_⟩; have Na : Aside0 (w9.heap[ga]? = some (.cells #[.slice A0_0 l0_0.length c0_0, .bool a0_1, .int .i64 a0_2] 24 (0, 0))) := ⟨blk_below (bp_1 BKa NBa_t) hb⟩; have Nn : Aside0 (w9.heap[gn]? = some (.cells #[.string nm] 9 (0, 0))) := ⟨blk_below (bp_1 BKn NBn_t) hb⟩; have Ny : Aside0 (w9.heap[gy]? = some (.cells #[.string dt] 9 (0, 0))) := ⟨blk_below (bp_1 BKy NBy_t) hb⟩; have Nr : Aside0 (w9.heap[gr]? = some (.cells #[.slice none 0 0, .bool false, .int .i64 0] 24 (0, 0))) := ⟨blk_below (bp_1 BKr NBr_t) hb⟩; have Nt : Aside0 (w9.heap[gt]? = some (.cells #[.string (nm ++ (⟨#[46, 116, 109, 112]⟩ : ByteArray))] 9 (0, 0))) := ⟨blk_below (bp_0 BKt) hb⟩; clear BKa BKn BKy BKr BKt; have BKa := Na; have BKn := Nn; have BKy := Ny; have BKr := Nr; have BKt := Nt; clear Na Nn Ny Nr Nt; replace HB := hB_ (bl_5 HB GEa GEn GEy GEr GEt) hb; clear hb; obtain ⟨hczb_0, hczb_1, hczb_2, hfzb_0, hfzb_1, hfzb_2⟩ := c3_ BKa; obtain ⟨hczt2, hfzt2⟩ := c1_ BKt) | ((with_reducible refine gk_ 67 ?_); refine gl_ (some 26) Try.func67 #[.agg #[.slice A0_0 l0_0.length c0_0, .bool a0_1, .int .i64 a0_2], .string (nm ++ (⟨#[46, 116, 109, 112]⟩ : ByteArray))] ?_; (with_reducible refine (disk_Drop.calls k _ _ l0_0 a0_1 a0_2 (nm ++ (⟨#[46, 116, 109, 112]⟩ : ByteArray)) x1 x2 x3 x4 _ ?side1 ?side2 A2.out).mono ?_); (case side1 => exact cl_ (Kd.C_below HR0_0.out HB.out)); (case side2 => exact HC0_0.out); rintro e w9 ⟨v9, rfl, ho0, hb⟩; refine ⟨_, rfl, ?_⟩; have HO9 := a_ (Kd.R_lower ho0 (below_size (bl_5 HB GEa GEn GEy GEr GEt))); replace BKa := bB_ BKa hb; replace BKn := bB_ BKn hb; replace BKy := bB_ BKy hb; replace BKr := bB_ BKr hb; replace BKt := bB_ BKt hb; replace HB := hB_ (bl_5 HB GEa GEn GEy GEr GEt) hb; clear hb ho0; obtain ⟨A9, c9, e9⟩ := Kd.R_slice HO9.out; subst e9) | ((with_reducible refine gd_ 11 ?_); refine bx_ 11 #[.slice none 0 0, .bool false, .int .i64 0] 24 ?_; intro gc hg w_ hbox hb; have BKc := a_ (hbox); have GEc := a_ (bs_5 hg HB GEa GEn GEy GEr GEt); have NBa_c := nB_ hg BKa; have NBc_a := nC_ hg BKa; have NBn_c := nB_ hg BKn; have NBc_n := nC_ hg BKn; have NBy_c := nB_ hg BKy; have NBc_y := nC_ hg BKy; have NBr_c := nB_ hg BKr; have NBc_r := nC_ hg BKr; have NBt_c := nB_ hg BKt; have NBc_t := nC_ hg BKt; replace BKa := bB_ BKa hb; replace BKn := bB_ BKn hb; replace BKy := bB_ BKy hb; replace BKr := bB_ BKr hb; replace BKt := bB_ BKt hb; replace HO9 := a_ (Kd.R_below (by refine rq_ ?_; exact HO9.out) hb); replace HB := hB_ (bl_5 HB GEa GEn GEy GEr GEt) hb; clear hb hbox hg; have hma1 := NBa_c.out; have hma2 := NBc_a.out; have hmn1 := NBn_c.out; have hmn2 := NBc_n.out; have hmy1 := NBy_c.out; have hmy2 := NBc_y.out; have hmr1 := NBr_c.out; have hmr2 := NBc_r.out; have hmt1 := NBt_c.out; have hmt2 := NBc_t.out; obtain ⟨hczc_0, hczc_1, hczc_2, hfzc_0, hfzc_1, hfzc_2⟩ := c3_ BKc; obtain ⟨hczd_0, hczd_1, hczd_2, hfzd_0, hfzd_1, hfzd_2⟩ := c3_ BKa; obtain ⟨hcze_0, hcze_1, hcze_2, hfze_0, hfze_1, hfze_2⟩ := c3_ BKr; obtain ⟨hczf, hfzf⟩ := c1_ BKt) | ((with_reducible refine gd_ 38 ?_); refine slice_event_ ?hg (N := 38) ?hd (cs := #[.func (.func 69) #[] #[.pointer (some ⟨gt, 0, none⟩), .pointer (some ⟨gy, 0, none⟩)], .func (.func 71) #[] #[.pointer (some ⟨gt, 0, none⟩)], .func (.func 73) #[] #[.pointer (some ⟨gt, 0, none⟩), .pointer (some ⟨gn, 0, none⟩)]]) (t := 95) (m := 3) (c := 3) ?hr ?_; (case hd => rfl); (case hg => rfl); (case hr => first | (go_simp; done) | (go_simp; rfl)); intro gq hg w_ hbox hb; have BKq := a_ (hbox); have Nn : Aside0 (w_.heap[gn]? = some (.cells #[.string nm] 9 (0, 0))) := ⟨blk_below (bp_2 BKn NBn_a NBn_c) hb⟩; have Ny : Aside0 (w_.heap[gy]? = some (.cells #[.string dt] 9 (0, 0))) := ⟨blk_below (bp_2 BKy NBy_a NBy_c) hb⟩; have Nt : Aside0 (w_.heap[gt]? = some (.cells #[.string (nm ++ (⟨#[46, 116, 109, 112]⟩ : ByteArray))] 9 (0, 0))) := ⟨blk_below (bp_2 BKt NBt_a NBt_c) hb⟩; have Nr : Aside0 (w_.heap[gr]? = some (.cells #[.slice none 0 0, .bool false, .int .i64 0] 24 (0, 0))) := ⟨blk_below (bp_2 BKr NBr_a NBr_c) hb⟩; clear BKn BKy BKt BKr; have BKn := Nn; have BKy := Ny; have BKt := Nt; have BKr := Nr; clear Nn Ny Nt Nr; replace HO9 := a_ (Kd.R_below (by refine rq_ ?_; exact Kd.R_mono (Kd.R_far (p := ⟨ga, 2, none⟩) (Kd.R_far (p := ⟨ga, 1, none⟩) (Kd.R_far (p := ⟨ga, 0, none⟩) (Kd.R_far (p := ⟨gc, 2, none⟩) (Kd.R_far (p := ⟨gc, 1, none⟩) (Kd.R_far (p := ⟨gc, 0, none⟩) (Kd.R_types (Kd.R_types HO9.out BKa.out (by decide)) BKc.out (by decide)) (fun _ hk => hk.2) _) (fun _ hk => hk.2) _) (fun _ hk => hk.2) _) (fun _ hk => hk.1.2) _) (fun _ hk => hk.1.2) _) (fun _ hk => hk.1.2) _) (fun _ hk => trivial)) hb); replace HB := hB_ (bl_6 HB GEa GEn GEy GEr GEt GEc) hb; clear hb hbox hg) | ((with_reducible refine gk_ 68 ?_); refine gl_ (some 39) Try.func68 #[.agg #[.slice A9 x1.length c9, .bool x2, .int .i64 x3], .slice (some ⟨gq, 0, none⟩) 3 3] ?_; (with_reducible refine (hard_all.calls k gq gt gy gn _ _ x1 x2 x3 (nm ++ (⟨#[46, 116, 109, 112]⟩ : ByteArray)) nm dt r1 r2 r3 r4 _ ?hq ?ht ?hd ?hn ?side1 ?side2 A3.out).mono ?_); (case hq => exact bk_ BKq); (case ht => exact bk_ BKt); (case hd => exact bk_ BKy); (case hn => exact bk_ BKn); (case side1 => exact (Kd.R_reads' HO9.out).2.2); (case side2 => exact (Kd.R_reads' HO9.out).2.1); rintro e w9 ⟨v9, rfl, ho0, hb⟩; refine ⟨_, rfl, ?_⟩; have HOz := a_ (Kd.R_lower ho0 (below_size (bl_6 HB GEa GEn GEy GEr GEt GEc))); replace BKr := bB_ BKr hb; replace HB := hB_ (bl_6 HB GEa GEn GEy GEr GEt GEc) hb; clear hb ho0; obtain ⟨Az, cz, ez⟩ := Kd.R_slice HOz.out; subst ez; obtain ⟨hczq_0, hczq_1, hczq_2, hfzq_0, hfzq_1, hfzq_2⟩ := c3_ BKr))
    refine bodyPost_ret (results_ct rfl _ _ gr 24 #[.slice Az r1.length cz, .bool r2, .int .i64 r3] (0, 0) _ rfl (bp_0 BKr) Try.underlying24 rfl (by kernel_rfl)) rfl ?_
    exact ⟨_, fz_, by refine rq_ ?_; exact Kd.R_mono (Kd.R_far (p := ⟨gr, 2, none⟩) (Kd.R_far (p := ⟨gr, 1, none⟩) (Kd.R_far (p := ⟨gr, 0, none⟩) (Kd.R_types HOz.out BKr.out (by decide)) (fun _ hk => hk.2) _) (fun _ hk => hk.2) _) (fun _ hk => hk.2) _) (fun _ hk => trivial), bl_6 HB GEa GEn GEy GEr GEt GEc⟩

/-! ### snap_Save: function 35 -/
def snap_Save.j0 : Nat → Int → List (S71) → Bool → Int → Int → Int → List Int → ByteArray → Option ((List (S71)) × Bool × Int × Int)
 | 0, _, _, _, _, _, _, _, _ => none
 | k + 1, x6, x321000, x321001, x321002, x322000, x322001, x322002, x322003 => if x6 = 0 then ((snap_Bytes.f k x322000 x322001 x322002 x322003).bind fun t332 => ((pack_Frame.f k t332).bind fun bt333 => ((hard_Put.f k x321000 x321001 x321002 (⟨#[115, 110, 97, 112]⟩ : ByteArray) bt333.1).bind fun bt335 => (some (bt335.1, bt335.2.1, bt335.2.2.1, bt335.2.2.2))))) else ((disk_Check.f k x321000 x321001 x321002).bind fun t341 => (if t341 = 0 then ((some (([] : List (S71)) : List (S71))).bind fun y342 => (if y342.length + x321000.length < 3518437208883 then (some ((y342 ++ x321000), x321001, x321002, x6)) else (none))) else (some (([] : List (S71)), false, 0, x6))))
def snap_Save.f (k : Nat) (l0_0 : List (S71)) (a0_1 : Bool) (a0_2 : Int) (a1_0 : Int) (a1_1 : Int) (l1_2 : List Int) (a1_3 : ByteArray) : Option ((List (S71)) × Bool × Int × Int) := (snap_Check.f k a1_0 a1_1 l1_2 a1_3).bind fun t323 => (if t323 = 0 then ((snap_Load.f k l0_0 a0_1 a0_2).bind fun bt325 => (if bt325.2.2.2.2 = 0 then (if bt325.1 > a1_0 then (snap_Save.j0 k 17 l0_0 a0_1 a0_2 a1_0 a1_1 l1_2 a1_3) else (snap_Save.j0 k bt325.2.2.2.2 l0_0 a0_1 a0_2 a1_0 a1_1 l1_2 a1_3)) else (snap_Save.j0 k bt325.2.2.2.2 l0_0 a0_1 a0_2 a1_0 a1_1 l1_2 a1_3))) else (snap_Save.j0 k t323 l0_0 a0_1 a0_2 a1_0 a1_1 l1_2 a1_3))
theorem snap_Save.mono_l : ∀ k, (∀ y0 y1 y2 y3 y4 y5 y6 y7, LeO (snap_Save.j0 k y0 y1 y2 y3 y4 y5 y6 y7) (snap_Save.j0 (k + 1) y0 y1 y2 y3 y4 y5 y6 y7))
 | 0 => fun _ _ _ _ _ _ _ _ r h => by simp [snap_Save.j0] at h
 | k + 1 => by
  have ih0 := snap_Save.mono_l k
  ·intro y0 y1 y2 y3 y4 y5 y6 y7
   unfold snap_Save.j0
   repeat' with_reducible first | exact ih0 _ _ _ _ _ _ _ _ | exact disk_Check.mono _ _ _ _ | exact hard_Put.mono _ _ _ _ _ _ | exact pack_Frame.mono _ _ | exact snap_Bytes.mono _ _ _ _ _ | exact snap_Check.mono _ _ _ _ _ | exact snap_Load.mono _ _ _ _ | exact LeO.refl _ | exact LeO.none _ | refine LeO.ite ?_ ?_ | refine LeO.bind ?_ (fun _ => ?_)
theorem snap_Save.mono : ∀ a0 a1 a2 a3 a4 a5 a6 k, LeO (snap_Save.f k a0 a1 a2 a3 a4 a5 a6) (snap_Save.f (k + 1) a0 a1 a2 a3 a4 a5 a6) := by
 intro a0 a1 a2 a3 a4 a5 a6 k
 have ih0 := snap_Save.mono_l k
 unfold snap_Save.f
 repeat' with_reducible first | exact ih0 _ _ _ _ _ _ _ _ | exact disk_Check.mono _ _ _ _ | exact hard_Put.mono _ _ _ _ _ _ | exact pack_Frame.mono _ _ | exact snap_Bytes.mono _ _ _ _ _ | exact snap_Check.mono _ _ _ _ _ | exact snap_Load.mono _ _ _ _ | exact LeO.refl _ | exact LeO.none _ | refine LeO.ite ?_ ?_ | refine LeO.bind ?_ (fun _ => ?_)
theorem snap_Save.calls (k : Nat) (A0_0 : Option Addr) (c0_0 : Nat) (l0_0 : List (S71)) (a0_1 : Bool) (a0_2 : Int) (a1_0 : Int) (a1_1 : Int) (A1_2 : Option Addr) (c1_2 : Nat) (l1_2 : List Int) (a1_3 : ByteArray) (r1 : List (S71)) (r2 : Bool) (r3 : Int) (r4 : Int) (w : World) (hr0_0 : Kd.C k71 w A0_0 l0_0.length l0_0) (hc0_0 : l0_0.length ≤ c0_0) (hr1_2 : Kd.C (Kd.int .i64) w A1_2 l1_2.length l1_2) (hc1_2 : l1_2.length ≤ c1_2) (h : snap_Save.f k l0_0 a0_1 a0_2 a1_0 a1_1 l1_2 a1_3 = some (r1, r2, r3, r4)) :
  Calls Try.prog 35 #[.agg #[.slice A0_0 l0_0.length c0_0, .bool a0_1, .int .i64 a0_2], .agg #[.int .u64 a1_0, .int .u64 a1_1, .slice A1_2 l1_2.length c1_2, .string a1_3]] w fun e w' => ∃ v0_ : Value, e = .returned (.tuple #[.agg #[v0_, .bool r2, .int .i64 r3], .int .i64 r4]) ∧ Kd.R k71 71 w' w.heap.size (fun _ => True) v0_ r1 ∧ Below w.heap.size w w' := by
 have hu24 := Try.underlying24
 have hu48 := Try.underlying48
 have HR0_0 := a_ hr0_0
 have HC0_0 := a_ hc0_0
 clear hr0_0 hc0_0
 have HR1_2 := a_ hr1_2
 have HC1_2 := a_ hc1_2
 clear hr1_2 hc1_2
 have HB := a_ (Below.refl w.heap.size w)
 have H : ((snap_Check.f k a1_0 a1_1 l1_2 a1_3).bind fun t323 => (if t323 = 0 then ((snap_Load.f k l0_0 a0_1 a0_2).bind fun bt325 => (if bt325.2.2.2.2 = 0 then (if bt325.1 > a1_0 then (snap_Save.j0 k 17 l0_0 a0_1 a0_2 a1_0 a1_1 l1_2 a1_3) else (snap_Save.j0 k bt325.2.2.2.2 l0_0 a0_1 a0_2 a1_0 a1_1 l1_2 a1_3)) else (snap_Save.j0 k bt325.2.2.2.2 l0_0 a0_1 a0_2 a1_0 a1_1 l1_2 a1_3))) else (snap_Save.j0 k t323 l0_0 a0_1 a0_2 a1_0 a1_1 l1_2 a1_3))) = some (r1, r2, r3, r4) := h
 clear h
 obtain ⟨t323, A30, H⟩ := Option.bind_eq_some_iff.mp H
 try dsimp only at H
 have A3 := a_ A30
 clear A30
 have HC4 := a_ H
 clear H
 go_enter Try.func35, Try.ntmps35
 go_upto_if 13 with (first | ((with_reducible refine gd_ 2 ?_); refine bx_ 2 #[.slice A0_0 l0_0.length c0_0, .bool a0_1, .int .i64 a0_2] 24 ?_; intro gb320 hg w5 hbox hb; have BK320 := a_ (hbox); have GE320 := a_ (bs_0 hg HB); replace HB := hB_ (bl_ HB) hb; clear hb hbox hg) | ((with_reducible refine gd_ 3 ?_); refine bx_ 3 #[.int .u64 a1_0, .int .u64 a1_1, .slice A1_2 l1_2.length c1_2, .string a1_3] 48 ?_; intro gb321 hg w6 hbox hb; have BK321 := a_ (hbox); have GE321 := a_ (bs_1 hg HB GE320); replace HB := hB_ (bl_1 HB GE320) hb; have NB320_321 := nB_ hg BK320; have NB321_320 := nC_ hg BK320; replace BK320 := bB_ BK320 hb; clear hb hbox hg) | ((with_reducible refine gd_ 4 ?_); refine bx_ 4 #[.slice none 0 0, .bool false, .int .i64 0] 24 ?_; intro gb322 hg w7 hbox hb; have BK322 := a_ (hbox); have GE322 := a_ (bs_2 hg HB GE320 GE321); replace HB := hB_ (bl_2 HB GE320 GE321) hb; have NB320_322 := nB_ hg BK320; have NB322_320 := nC_ hg BK320; replace BK320 := bB_ BK320 hb; have NB321_322 := nB_ hg BK321; have NB322_321 := nC_ hg BK321; replace BK321 := bB_ BK321 hb; clear hb hbox hg; have hnb8 := NB321_320.out; have hnc8 := NB320_321.out; have hnb9 := NB321_322.out; have hnc9 := NB322_321.out; obtain ⟨hcz10_0, hcz10_1, hcz10_2, hcz10_3, hfz10_0, hfz10_1, hfz10_2, hfz10_3⟩ := c4_ BK321) | ((with_reducible refine gk_ 31 ?_); refine gl_ (some 11) Try.func31 #[.agg #[.int .u64 a1_0, .int .u64 a1_1, .slice A1_2 l1_2.length c1_2, .string a1_3]] ?_; (with_reducible refine (snap_Check.calls k a1_0 a1_1 _ _ l1_2 a1_3 t323 _ ?side1 ?side2 A3.out).mono ?_); (case side1 => exact cl_ (Kd.C_below HR1_2.out HB.out)); (case side2 => exact HC1_2.out); rintro e w11 ⟨rfl, hb⟩; refine ⟨_, rfl, ?_⟩; replace BK320 := bB_ BK320 hb; replace BK321 := bB_ BK321 hb; replace BK322 := bB_ BK322 hb; replace HB := hB_ (bl_3 HB GE320 GE321 GE322) hb; (try clear hb)))
 (try simp only [Act.put, List.setIfInBounds_toArray, List.set_cons_zero, List.set_cons_succ])
 go_cut [6] (fun v6 wc => ∃ (kq : Nat) (x6_3 : Int), v6 = .int .i64 x6_3 ∧ Aside0 (snap_Save.j0 kq x6_3 l0_0 a0_1 a0_2 a1_0 a1_1 l1_2 a1_3 = some (r1, r2, r3, r4)) ∧ Aside0 (kq ≤ k) ∧ Aside0 (wc.heap[gb320]? = some (.cells #[(.slice A0_0 l0_0.length c0_0), .bool a0_1, .int .i64 a0_2] 24 (0, 0))) ∧ Aside0 (wc.heap[gb321]? = some (.cells #[.int .u64 a1_0, .int .u64 a1_1, (.slice A1_2 l1_2.length c1_2), .string a1_3] 48 (0, 0))) ∧ Aside0 (wc.heap[gb322]? = some (.cells #[(.slice none 0 0), .bool false, .int .i64 0] 24 (0, 0))) ∧ Aside0 (Below w.heap.size w wc))
 case first =>
  have H := HC4.out
  clear HC4
  by_cases c12 : t323 = 0
  rotate_left
  ·rw [if_neg c12] at H
   have c12b0 : (t323 == 0) = false := beq_eq_false_iff_ne.mpr c12
   have c12b1 : (t323 != 0) = true := bne_iff_ne.mpr c12
   (first | rw [c12b0] | (simp only [i64_w, i32_w]; rw [c12b0]) | skip)
   have H' := a_ H
   clear H
   go_wp2
   go_meet
   case rel => exact ⟨_, (t323), fz_, H', ⟨by first | omega | exact Nat.le_refl _⟩, ⟨bk_ BK320⟩, ⟨bk_ BK321⟩, ⟨bk_ BK322⟩, ⟨bl_3 HB GE320 GE321 GE322⟩⟩
  rw [if_pos c12] at H
  have c12b0 : (t323 == 0) = true := beq_iff_eq.mpr c12
  have c12b1 : (t323 != 0) = false := bne_eq_false_iff_eq.mpr c12
  clear c12
  (first | rw [c12b0] | (simp only [i64_w, i32_w]; rw [c12b0]) | skip)
  obtain ⟨⟨t325, t326, t327, t330, t331⟩, A130, H⟩ := Option.bind_eq_some_iff.mp H
  try dsimp only at H
  have A13 := a_ A130
  clear A130
  by_cases c14 : t331 = 0
  rotate_left
  ·rw [if_neg c14] at H
   have c14b0 : (t331 == 0) = false := beq_eq_false_iff_ne.mpr c14
   have c14b1 : (t331 != 0) = true := bne_iff_ne.mpr c14
   have H' := a_ H
   clear H
   go_wp2_with (first | ((with_reducible refine gd_ 7 ?_); refine bx_ 7 #[.int .u64 0, .int .u64 0, .slice none 0 0, .string (⟨#[]⟩ : ByteArray)] 48 ?_; intro gb324 hg w40 hbox hb; have BK324 := a_ (hbox); have GE324 := a_ (bs_3 hg HB GE320 GE321 GE322); replace HB := hB_ (bl_3 HB GE320 GE321 GE322) hb; have NB320_324 := nB_ hg BK320; have NB324_320 := nC_ hg BK320; replace BK320 := bB_ BK320 hb; have NB321_324 := nB_ hg BK321; have NB324_321 := nC_ hg BK321; replace BK321 := bB_ BK321 hb; have NB322_324 := nB_ hg BK322; have NB324_322 := nC_ hg BK322; replace BK322 := bB_ BK322 hb; clear hb hbox hg; have hnb41 := NB320_321.out; have hnc41 := NB321_320.out; have hnb42 := NB320_322.out; have hnc42 := NB322_320.out; have hnb43 := NB320_324.out; have hnc43 := NB324_320.out; obtain ⟨hcz44_0, hcz44_1, hcz44_2, hfz44_0, hfz44_1, hfz44_2⟩ := c3_ BK320) | ((with_reducible refine gk_ 33 ?_); refine gl_ (some 16) Try.func33 #[.agg #[.slice A0_0 l0_0.length c0_0, .bool a0_1, .int .i64 a0_2]] ?_; (with_reducible refine (snap_Load.calls k _ _ l0_0 a0_1 a0_2 t325 t326 t327 t330 t331 _ ?side1 ?side2 A13.out).mono ?_); (case side1 => exact cl_ (Kd.C_below HR0_0.out HB.out)); (case side2 => exact HC0_0.out); rintro e w45 ⟨v328, rfl, ho0, hb⟩; refine ⟨_, rfl, ?_⟩; have HO329 := a_ (Kd.R_lower ho0 (below_size (bl_4 HB GE320 GE321 GE322 GE324))); replace BK320 := bB_ BK320 hb; replace BK321 := bB_ BK321 hb; replace BK322 := bB_ BK322 hb; replace BK324 := bB_ BK324 hb; replace HB := hB_ (bl_4 HB GE320 GE321 GE322 GE324) hb; (try clear hb); (try clear ho0); have hnb46 := NB324_321.out; have hnc46 := NB321_324.out; have hnb47 := NB324_322.out; have hnc47 := NB322_324.out; obtain ⟨hcz48_0, hcz48_1, hcz48_2, hcz48_3, hfz48_0, hfz48_1, hfz48_2, hfz48_3⟩ := c4_ BK324; obtain ⟨Ao49, co49, eo49⟩ := Kd.R_slice HO329.out; subst eo49))
   go_meet
   case rel => exact ⟨_, (t331), fz_, H', ⟨by first | omega | exact Nat.le_refl _⟩, ⟨by refine bq_ ?_; refine blk_far ?_ NB320_324.out _; refine bq_ ?_; refine blk_far ?_ NB320_324.out _; refine bq_ ?_; refine blk_far ?_ NB320_324.out _; refine bq_ ?_; refine blk_far ?_ NB320_324.out _; refine bq_ ?_; exact BK320.out⟩, ⟨by refine bq_ ?_; refine blk_far ?_ NB321_324.out _; refine bq_ ?_; refine blk_far ?_ NB321_324.out _; refine bq_ ?_; refine blk_far ?_ NB321_324.out _; refine bq_ ?_; refine blk_far ?_ NB321_324.out _; refine bq_ ?_; exact BK321.out⟩, ⟨by refine bq_ ?_; refine blk_far ?_ NB322_324.out _; refine bq_ ?_; refine blk_far ?_ NB322_324.out _; refine bq_ ?_; refine blk_far ?_ NB322_324.out _; refine bq_ ?_; refine blk_far ?_ NB322_324.out _; refine bq_ ?_; exact BK322.out⟩, ⟨bl_4 HB GE320 GE321 GE322 GE324⟩⟩
  rw [if_pos c14] at H
  have c14b0 : (t331 == 0) = true := beq_iff_eq.mpr c14
  have c14b1 : (t331 != 0) = false := bne_eq_false_iff_eq.mpr c14
  clear c14
  by_cases c15 : t325 > a1_0
  ·rw [if_pos c15] at H
   have c15b0 : decide (a1_0 < t325) = true := decide_eq_true c15
   clear c15
   have H' := a_ H
   clear H
   go_wp2_with (first | ((with_reducible refine gd_ 7 ?_); refine bx_ 7 #[.int .u64 0, .int .u64 0, .slice none 0 0, .string (⟨#[]⟩ : ByteArray)] 48 ?_; intro gb324 hg w16 hbox hb; have BK324 := a_ (hbox); have GE324 := a_ (bs_3 hg HB GE320 GE321 GE322); replace HB := hB_ (bl_3 HB GE320 GE321 GE322) hb; have NB320_324 := nB_ hg BK320; have NB324_320 := nC_ hg BK320; replace BK320 := bB_ BK320 hb; have NB321_324 := nB_ hg BK321; have NB324_321 := nC_ hg BK321; replace BK321 := bB_ BK321 hb; have NB322_324 := nB_ hg BK322; have NB324_322 := nC_ hg BK322; replace BK322 := bB_ BK322 hb; clear hb hbox hg; have hnb17 := NB320_321.out; have hnc17 := NB321_320.out; have hnb18 := NB320_322.out; have hnc18 := NB322_320.out; have hnb19 := NB320_324.out; have hnc19 := NB324_320.out; obtain ⟨hcz20_0, hcz20_1, hcz20_2, hfz20_0, hfz20_1, hfz20_2⟩ := c3_ BK320) | ((with_reducible refine gk_ 33 ?_); refine gl_ (some 16) Try.func33 #[.agg #[.slice A0_0 l0_0.length c0_0, .bool a0_1, .int .i64 a0_2]] ?_; (with_reducible refine (snap_Load.calls k _ _ l0_0 a0_1 a0_2 t325 t326 t327 t330 t331 _ ?side1 ?side2 A13.out).mono ?_); (case side1 => exact cl_ (Kd.C_below HR0_0.out HB.out)); (case side2 => exact HC0_0.out); rintro e w21 ⟨v328, rfl, ho0, hb⟩; refine ⟨_, rfl, ?_⟩; have HO329 := a_ (Kd.R_lower ho0 (below_size (bl_4 HB GE320 GE321 GE322 GE324))); replace BK320 := bB_ BK320 hb; replace BK321 := bB_ BK321 hb; replace BK322 := bB_ BK322 hb; replace BK324 := bB_ BK324 hb; replace HB := hB_ (bl_4 HB GE320 GE321 GE322 GE324) hb; (try clear hb); (try clear ho0); have hnb22 := NB324_321.out; have hnc22 := NB321_324.out; have hnb23 := NB324_322.out; have hnc23 := NB322_324.out; obtain ⟨hcz24_0, hcz24_1, hcz24_2, hcz24_3, hfz24_0, hfz24_1, hfz24_2, hfz24_3⟩ := c4_ BK324; obtain ⟨Ao25, co25, eo25⟩ := Kd.R_slice HO329.out; subst eo25; have hnb26 := NB321_322.out; have hnc26 := NB322_321.out; obtain ⟨hcz27_0, hcz27_1, hcz27_2, hcz27_3, hfz27_0, hfz27_1, hfz27_2, hfz27_3⟩ := c4_ BK321))
   go_meet
   case rel => exact ⟨_, (17), fz_, H', ⟨by first | omega | exact Nat.le_refl _⟩, ⟨by refine bq_ ?_; refine blk_far ?_ NB320_324.out _; refine bq_ ?_; refine blk_far ?_ NB320_324.out _; refine bq_ ?_; refine blk_far ?_ NB320_324.out _; refine bq_ ?_; refine blk_far ?_ NB320_324.out _; refine bq_ ?_; exact BK320.out⟩, ⟨by refine bq_ ?_; refine blk_far ?_ NB321_324.out _; refine bq_ ?_; refine blk_far ?_ NB321_324.out _; refine bq_ ?_; refine blk_far ?_ NB321_324.out _; refine bq_ ?_; refine blk_far ?_ NB321_324.out _; refine bq_ ?_; exact BK321.out⟩, ⟨by refine bq_ ?_; refine blk_far ?_ NB322_324.out _; refine bq_ ?_; refine blk_far ?_ NB322_324.out _; refine bq_ ?_; refine blk_far ?_ NB322_324.out _; refine bq_ ?_; refine blk_far ?_ NB322_324.out _; refine bq_ ?_; exact BK322.out⟩, ⟨bl_4 HB GE320 GE321 GE322 GE324⟩⟩
  rw [if_neg c15] at H
  have c15b0 : decide (a1_0 < t325) = false := decide_eq_false c15
  clear c15
  have H' := a_ H
  clear H
  go_wp2_with (first | ((with_reducible refine gd_ 7 ?_); refine bx_ 7 #[.int .u64 0, .int .u64 0, .slice none 0 0, .string (⟨#[]⟩ : ByteArray)] 48 ?_; intro gb324 hg w28 hbox hb; have BK324 := a_ (hbox); have GE324 := a_ (bs_3 hg HB GE320 GE321 GE322); replace HB := hB_ (bl_3 HB GE320 GE321 GE322) hb; have NB320_324 := nB_ hg BK320; have NB324_320 := nC_ hg BK320; replace BK320 := bB_ BK320 hb; have NB321_324 := nB_ hg BK321; have NB324_321 := nC_ hg BK321; replace BK321 := bB_ BK321 hb; have NB322_324 := nB_ hg BK322; have NB324_322 := nC_ hg BK322; replace BK322 := bB_ BK322 hb; clear hb hbox hg; have hnb29 := NB320_321.out; have hnc29 := NB321_320.out; have hnb30 := NB320_322.out; have hnc30 := NB322_320.out; have hnb31 := NB320_324.out; have hnc31 := NB324_320.out; obtain ⟨hcz32_0, hcz32_1, hcz32_2, hfz32_0, hfz32_1, hfz32_2⟩ := c3_ BK320) | ((with_reducible refine gk_ 33 ?_); refine gl_ (some 16) Try.func33 #[.agg #[.slice A0_0 l0_0.length c0_0, .bool a0_1, .int .i64 a0_2]] ?_; (with_reducible refine (snap_Load.calls k _ _ l0_0 a0_1 a0_2 t325 t326 t327 t330 t331 _ ?side1 ?side2 A13.out).mono ?_); (case side1 => exact cl_ (Kd.C_below HR0_0.out HB.out)); (case side2 => exact HC0_0.out); rintro e w33 ⟨v328, rfl, ho0, hb⟩; refine ⟨_, rfl, ?_⟩; have HO329 := a_ (Kd.R_lower ho0 (below_size (bl_4 HB GE320 GE321 GE322 GE324))); replace BK320 := bB_ BK320 hb; replace BK321 := bB_ BK321 hb; replace BK322 := bB_ BK322 hb; replace BK324 := bB_ BK324 hb; replace HB := hB_ (bl_4 HB GE320 GE321 GE322 GE324) hb; (try clear hb); (try clear ho0); have hnb34 := NB324_321.out; have hnc34 := NB321_324.out; have hnb35 := NB324_322.out; have hnc35 := NB322_324.out; obtain ⟨hcz36_0, hcz36_1, hcz36_2, hcz36_3, hfz36_0, hfz36_1, hfz36_2, hfz36_3⟩ := c4_ BK324; obtain ⟨Ao37, co37, eo37⟩ := Kd.R_slice HO329.out; subst eo37; have hnb38 := NB321_322.out; have hnc38 := NB322_321.out; obtain ⟨hcz39_0, hcz39_1, hcz39_2, hcz39_3, hfz39_0, hfz39_1, hfz39_2, hfz39_3⟩ := c4_ BK321))
  go_meet
  case rel => exact ⟨_, (t331), fz_, H', ⟨by first | omega | exact Nat.le_refl _⟩, ⟨by refine bq_ ?_; refine blk_far ?_ NB320_324.out _; refine bq_ ?_; refine blk_far ?_ NB320_324.out _; refine bq_ ?_; refine blk_far ?_ NB320_324.out _; refine bq_ ?_; refine blk_far ?_ NB320_324.out _; refine bq_ ?_; exact BK320.out⟩, ⟨by refine bq_ ?_; refine blk_far ?_ NB321_324.out _; refine bq_ ?_; refine blk_far ?_ NB321_324.out _; refine bq_ ?_; refine blk_far ?_ NB321_324.out _; refine bq_ ?_; refine blk_far ?_ NB321_324.out _; refine bq_ ?_; exact BK321.out⟩, ⟨by refine bq_ ?_; refine blk_far ?_ NB322_324.out _; refine bq_ ?_; refine blk_far ?_ NB322_324.out _; refine bq_ ?_; refine blk_far ?_ NB322_324.out _; refine bq_ ?_; refine blk_far ?_ NB322_324.out _; refine bq_ ?_; exact BK322.out⟩, ⟨bl_4 HB GE320 GE321 GE322 GE324⟩⟩
 case rest =>
  clear HC4
  try clear c1
  try clear c2
  try clear p2
  try clear c3
  try clear c4
  try clear c8
  try clear c9
  try clear c12
  try clear c12b0
  try clear c12b1
  try clear c14
  try clear c14b0
  try clear c14b1
  try clear c15
  try clear c15b0
  try clear c17
  try clear c18
  try clear c19
  try clear c22
  try clear c23
  try clear c26
  try clear c29
  try clear c30
  try clear c31
  try clear c33
  try clear c34
  try clear c35
  try clear c38
  try clear c41
  try clear c42
  try clear c43
  try clear c46
  try clear c47
  obtain ⟨kq, x6_3, rfl, HA, HJ3, BK320, BK321, BK322, HB⟩ := hcut
  cases kq with
  | zero => exact absurd HA.out (by simp [snap_Save.j0])
  | succ kj3 =>
   have H := HA.out
   clear HA
   simp only [snap_Save.j0] at H
   by_cases c50 : x6_3 = 0
   ·rw [if_pos c50] at H
    have c50b0 : (x6_3 == 0) = true := beq_iff_eq.mpr c50
    have c50b1 : (x6_3 != 0) = false := bne_eq_false_iff_eq.mpr c50
    clear c50
    obtain ⟨t332, A510, H⟩ := Option.bind_eq_some_iff.mp H
    try dsimp only at H
    have A51 := a_ A510
    clear A510
    obtain ⟨⟨t333, t334⟩, A520, H⟩ := Option.bind_eq_some_iff.mp H
    try dsimp only at H
    have A52 := a_ A520
    clear A520
    obtain ⟨⟨t335, t338, t339, t340⟩, A530, H⟩ := Option.bind_eq_some_iff.mp H
    try dsimp only at H
    have A53 := a_ A530
    clear A530
    simp only [Option.some.injEq, Prod.mk.injEq] at H
    obtain ⟨rfl, rfl, rfl, rfl⟩ := H
    have hnb54 := NB321_320.out
    have hnc54 := NB320_321.out
    have hnb55 := NB321_322.out
    have hnc55 := NB322_321.out
    obtain ⟨hcz56_0, hcz56_1, hcz56_2, hcz56_3, hfz56_0, hfz56_1, hfz56_2, hfz56_3⟩ := c4_ BK321
    go_wp2_with (first | ((with_reducible refine gk_ 51 ?_); refine gl_ (some 33) Try.func51 #[.agg #[.int .u64 a1_0, .int .u64 a1_1, .slice A1_2 l1_2.length c1_2, .string a1_3]] ?_; (with_reducible refine (snap_Bytes.calls kj3 a1_0 a1_1 _ _ l1_2 a1_3 t332 _ ?side1 ?side2 A51.out).mono ?_); (case side1 => exact cl_ (Kd.C_below HR1_2.out HB.out)); (case side2 => exact HC1_2.out); rintro e w57 ⟨rfl, hb⟩; refine ⟨_, rfl, ?_⟩; replace BK320 := bB_ BK320 hb; replace BK321 := bB_ BK321 hb; replace BK322 := bB_ BK322 hb; replace HB := hB_ (bl_3 HB GE320 GE321 GE322) hb; (try clear hb)) | ((with_reducible refine gk_ 59 ?_); refine gl_ (some 34) Try.func59 #[.string t332] ?_; (with_reducible refine (pack_Frame.calls kj3 t332 t333 t334 _ A52.out).mono ?_); rintro e w58 ⟨rfl, hb⟩; refine ⟨_, rfl, ?_⟩; replace BK320 := bB_ BK320 hb; replace BK321 := bB_ BK321 hb; replace BK322 := bB_ BK322 hb; replace HB := hB_ (bl_3 HB GE320 GE321 GE322) hb; (try clear hb); have hnb59 := NB320_322.out; have hnc59 := NB322_320.out; obtain ⟨hcz60_0, hcz60_1, hcz60_2, hfz60_0, hfz60_1, hfz60_2⟩ := c3_ BK320) | ((with_reducible refine gk_ 45 ?_); refine gl_ (some 39) Try.func45 #[.agg #[.slice A0_0 l0_0.length c0_0, .bool a0_1, .int .i64 a0_2], .string (⟨#[115, 110, 97, 112]⟩ : ByteArray), .string t333] ?_; (with_reducible refine (hard_Put.calls kj3 _ _ l0_0 a0_1 a0_2 (⟨#[115, 110, 97, 112]⟩ : ByteArray) t333 t335 t338 t339 t340 _ ?side1 ?side2 A53.out).mono ?_); (case side1 => exact cl_ (Kd.C_below HR0_0.out HB.out)); (case side2 => exact HC0_0.out); rintro e w61 ⟨v336, rfl, ho0, hb⟩; refine ⟨_, rfl, ?_⟩; have HO337 := a_ (Kd.R_lower ho0 (below_size (bl_3 HB GE320 GE321 GE322))); replace BK320 := bB_ BK320 hb; replace BK321 := bB_ BK321 hb; replace BK322 := bB_ BK322 hb; replace HB := hB_ (bl_3 HB GE320 GE321 GE322) hb; (try clear hb); (try clear ho0); obtain ⟨Ao62, co62, eo62⟩ := Kd.R_slice HO337.out; subst eo62; obtain ⟨hcz63_0, hcz63_1, hcz63_2, hfz63_0, hfz63_1, hfz63_2⟩ := c3_ BK322))
    refine bodyPost_ret (results_ct rfl _ _ gb322 24 #[.slice Ao62 t335.length co62, .bool t338, .int .i64 t339] (0, 0) _ rfl (bp_0 BK322) Try.underlying24 rfl (by kernel_rfl)) rfl ?_
    exact ⟨_, fz_, by refine rq_ ?_; exact Kd.R_mono (Kd.R_far (p := ⟨gb322, 2, none⟩) (Kd.R_far (p := ⟨gb322, 1, none⟩) (Kd.R_far (p := ⟨gb322, 0, none⟩) (Kd.R_types HO337.out BK322.out (by decide)) (fun _ hk => hk.2) (.slice Ao62 t335.length co62)) (fun _ hk => hk.2) (.bool t338)) (fun _ hk => hk.2) (.int .i64 t339)) (fun _ hk => trivial), bl_3 HB GE320 GE321 GE322⟩
   rw [if_neg c50] at H
   have c50b0 : (x6_3 == 0) = false := beq_eq_false_iff_ne.mpr c50
   have c50b1 : (x6_3 != 0) = true := bne_iff_ne.mpr c50
   obtain ⟨t341, A640, H⟩ := Option.bind_eq_some_iff.mp H
   try dsimp only at H
   have A64 := a_ A640
   clear A640
   by_cases c65 : t341 = 0
   rotate_left
   ·rw [if_neg c65] at H
    have c65b0 : (t341 == 0) = false := beq_eq_false_iff_ne.mpr c65
    have c65b1 : (t341 != 0) = true := bne_iff_ne.mpr c65
    simp only [Option.some.injEq, Prod.mk.injEq] at H
    obtain ⟨rfl, rfl, rfl, rfl⟩ := H
    have hnb79 := NB320_321.out
    have hnc79 := NB321_320.out
    have hnb80 := NB320_322.out
    have hnc80 := NB322_320.out
    obtain ⟨hcz81_0, hcz81_1, hcz81_2, hfz81_0, hfz81_1, hfz81_2⟩ := c3_ BK320
    go_wp2_with (first | ((with_reducible refine gk_ 37 ?_); refine gl_ (some 44) Try.func37 #[.agg #[.slice A0_0 l0_0.length c0_0, .bool a0_1, .int .i64 a0_2]] ?_; (with_reducible refine (disk_Check.calls kj3 _ _ l0_0 a0_1 a0_2 t341 _ ?side1 ?side2 A64.out).mono ?_); (case side1 => exact cl_ (Kd.C_below HR0_0.out HB.out)); (case side2 => exact HC0_0.out); rintro e w82 ⟨rfl, hb⟩; refine ⟨_, rfl, ?_⟩; replace BK320 := bB_ BK320 hb; replace BK321 := bB_ BK321 hb; replace BK322 := bB_ BK322 hb; replace HB := hB_ (bl_3 HB GE320 GE321 GE322) hb; (try clear hb); have hnb83 := NB322_321.out; have hnc83 := NB321_322.out; obtain ⟨hcz84_0, hcz84_1, hcz84_2, hfz84_0, hfz84_1, hfz84_2⟩ := c3_ BK322))
    refine bodyPost_ret (results_ct rfl _ _ gb322 24 #[.slice none 0 0, .bool false, .int .i64 0] (0, 0) _ rfl (bp_0 BK322) Try.underlying24 rfl (by kernel_rfl)) rfl ?_
    exact ⟨_, fz_, by first | exact Kd.R_nil _ _ _ _ _ | exact Kd.N_nil _ _ _ _ _ | exact Kd.V_nil _ _ _ _ _ | exact Kd.Q_nil _ _ _ _ _ | exact Kd.S_nil _ _ _ _ _, bl_3 HB GE320 GE321 GE322⟩


   rw [if_pos c65] at H
   have c65b0 : (t341 == 0) = true := beq_iff_eq.mpr c65
   have c65b1 : (t341 != 0) = false := bne_eq_false_iff_eq.mpr c65
   clear c65
   obtain ⟨y342, hy342⟩ : ∃ y_ : List (S71), y_ = (([] : List (S71))) := ⟨_, rfl⟩
   replace H : (if y342.length + l0_0.length < 3518437208883 then (some ((y342 ++ l0_0), a0_1, a0_2, x6_3)) else (none)) = some (r1, r2, r3, r4) := by first | (rw [hy342]; with_reducible exact H) | (have H2_ := (Option.bind_some _ _).symm.trans H; rw [hy342]; with_reducible exact H2_) | (have H2_ := (Option.bind_some _ _).symm.trans H; with_reducible exact H2_) | with_reducible exact H | (rw [hy342]; exact H) | exact H
   have Ny342 := a_ hy342
   clear hy342
   by_cases c66 : y342.length + l0_0.length < 3518437208883
   rotate_left
   ·rw [if_neg c66] at H
    exact absurd H (by simp)
   rw [if_pos c66] at H
   have LMc66 := a_ c66
   clear c66
   obtain ⟨y345, hy345⟩ : ∃ y_ : List (S71), y_ = (y342 ++ l0_0) := ⟨_, rfl⟩
   replace H : (some (y345, a0_1, a0_2, x6_3)) = some (r1, r2, r3, r4) := by first | (rw [hy345]; with_reducible exact H) | (have H2_ := (Option.bind_some _ _).symm.trans H; rw [hy345]; with_reducible exact H2_) | (have H2_ := (Option.bind_some _ _).symm.trans H; with_reducible exact H2_) | with_reducible exact H | (rw [hy345]; exact H) | exact H
   have Ny345 := a_ hy345
   clear hy345
   simp only [Option.some.injEq, Prod.mk.injEq] at H
   obtain ⟨rfl, rfl, rfl, rfl⟩ := H
   have hnb67 := NB320_321.out
   have hnc67 := NB321_320.out
   have hnb68 := NB320_322.out
   have hnc68 := NB322_320.out
   obtain ⟨hcz69_0, hcz69_1, hcz69_2, hfz69_0, hfz69_1, hfz69_2⟩ := c3_ BK320
   go_wp2_with (first | ((with_reducible refine gk_ 37 ?_); refine gl_ (some 44) Try.func37 #[.agg #[.slice A0_0 l0_0.length c0_0, .bool a0_1, .int .i64 a0_2]] ?_; (with_reducible refine (disk_Check.calls kj3 _ _ l0_0 a0_1 a0_2 t341 _ ?side1 ?side2 A64.out).mono ?_); (case side1 => exact cl_ (Kd.C_below HR0_0.out HB.out)); (case side2 => exact HC0_0.out); rintro e w70 ⟨rfl, hb⟩; refine ⟨_, rfl, ?_⟩; replace BK320 := bB_ BK320 hb; replace BK321 := bB_ BK321 hb; replace BK322 := bB_ BK322 hb; replace HB := hB_ (bl_3 HB GE320 GE321 GE322) hb; (try clear hb)) | ((with_reducible refine gd_ 48 ?_); refine Kd.R_lit k71 _ 71 ?hg (N := 48) ?hd (xs := ([] : List (S71))) (inner := []) (ok := fun _ => True) (okp := fun _ => True) ?hr ?hp (fun _ hk => hk) trivial (Below.refl _ _) (Nat.le_refl _) (by simp) ?_; (case hd => rfl); (case hg => rfl); (case hr => first | (go_simp; done) | (go_simp; rfl)); (case hp => exact (Reps.none _ _)); intro v343 w71 ho72 hb hg_ hnew_; clear hg_ hnew_; (first | rw [← Ny342.out] at ho72 | (simp only [Int.reduceToNat] at ho72; rw [← Ny342.out] at ho72)); have HO344 := a_ (Kd.R_lower ho72 (below_size (bl_3 HB GE320 GE321 GE322))); replace BK320 := bB_ BK320 hb; replace BK321 := bB_ BK321 hb; replace BK322 := bB_ BK322 hb; replace HB := hB_ (bl_3 HB GE320 GE321 GE322) hb; clear hb ho72; obtain ⟨hcz73_0, hcz73_1, hcz73_2, hfz73_0, hfz73_1, hfz73_2⟩ := c3_ BK320) | ((with_reducible refine gate_builtin (b := .append) (xs := #[.tmp 48, .tmp 50]) rfl ?_); at_builtin; refine Kd.R_append_rows k71 (w0 := w) w.heap.size rfl (.tmp 48) (.tmp 50) 22 71 (.agg #[(.string ⟨#[]⟩), (.string ⟨#[]⟩), (.int .i64 0)]) 40 rfl Try.underlying22 info71 rfl (by decide) (by omega) v343 y342 l0_0 _ _ _ (fun _ => True) (fun _ => False) rfl rfl ?aO ?aR (fun _ _ h => h) (fun _ h => h.elim) ?aF ?aB ?aS ?aL ?_; (case aR => exact cl_ (Kd.C_below HR0_0.out HB.out)); (case aB => exact (bl_3 HB GE320 GE321 GE322)); (case aF => exact (fun _ _ => trivial)); (case aO => exact (by refine rq_ ?_; exact HO344.out)); (case aS => exact (below_size (bl_3 HB GE320 GE321 GE322))); (case aL => have := LMc66.out; omega); intro v346 w74 ho hb hg hat; rw [← Ny345.out] at ho; replace BK320 := a_ (blk_grown (g := gb320) (o := .cells #[.slice A0_0 l0_0.length c0_0, .bool a0_1, .int .i64 a0_2] 24 (0, 0)) (bk_ BK320) hg (Kd.R_ne HO344.out BK320.out (by decide))); replace BK321 := a_ (blk_grown (g := gb321) (o := .cells #[.int .u64 a1_0, .int .u64 a1_1, .slice A1_2 l1_2.length c1_2, .string a1_3] 48 (0, 0)) (bk_ BK321) hg (Kd.R_ne HO344.out BK321.out (by decide))); replace BK322 := a_ (blk_grown (g := gb322) (o := .cells #[.slice none 0 0, .bool false, .int .i64 0] 24 (0, 0)) (bk_ BK322) hg (Kd.R_ne HO344.out BK322.out (by decide))); replace HB := a_ (hb); have HO347 := a_ (ho); clear HO344; clear ho hb hg hat; obtain ⟨Ao75, co75, eo75⟩ := Kd.R_slice HO347.out; subst eo75; obtain ⟨hcz76_0, hcz76_1, hcz76_2, hfz76_0, hfz76_1, hfz76_2⟩ := c3_ BK320; have hnb77 := NB322_321.out; have hnc77 := NB321_322.out; obtain ⟨hcz78_0, hcz78_1, hcz78_2, hfz78_0, hfz78_1, hfz78_2⟩ := c3_ BK322))
   refine bodyPost_ret (results_ct rfl _ _ gb322 24 #[.slice Ao75 y345.length co75, .bool a0_1, .int .i64 a0_2] (0, 0) _ rfl (bp_1 BK322 NB322_320) Try.underlying24 rfl (by kernel_rfl)) rfl ?_
   exact ⟨_, fz_, by refine rq_ ?_; exact Kd.R_mono (Kd.R_far (p := ⟨gb322, 2, none⟩) (Kd.R_far (p := ⟨gb322, 1, none⟩) (Kd.R_far (p := ⟨gb322, 0, none⟩) (Kd.R_far (p := ⟨gb320, 0, none⟩) (Kd.R_types (Kd.R_types HO347.out BK320.out (by decide)) BK322.out (by decide)) (fun _ hk => hk.1.2) (.slice Ao75 y345.length co75)) (fun _ hk => hk.2) (.slice Ao75 y345.length co75)) (fun _ hk => hk.2) (.bool a0_1)) (fun _ hk => hk.2) (.int .i64 a0_2)) (fun _ hk => trivial), bl_3 HB GE320 GE321 GE322⟩
/-! ### gafferlaw05_lives: function 29 -/
def gafferlaw05_lives.f (k : Nat)  : Option (Bool) := (some (([1, 3] : List Int) : List Int)).bind fun y348 => ((snap_Load.f k ([] : List (S71)) false (-1)).bind fun bt352 => ((snap_Save.f k ([] : List (S71)) false (-1) 16 2 y348 (⟨#[120]⟩ : ByteArray)).bind fun bt360 => ((snap_Load.f k bt360.1 bt360.2.1 bt360.2.2.1).bind fun bt367 => ((snap_Save.f k bt360.1 bt360.2.1 bt360.2.2.1 4 0 (([1] : List Int)) (⟨#[]⟩ : ByteArray)).bind fun bt378 => ((snap_Encode.f k 16 2 y348 (⟨#[120]⟩ : ByteArray)).bind fun bt385 => (if bt352.1 = 0 then (if bt352.2.2.2.2 = 0 then (if bt360.2.2.2 = 0 then (if bt367.2.2.2.2 = 0 then ((gafferref05_Same.f k 16 2 y348 (⟨#[120]⟩ : ByteArray) bt367.1 bt367.2.1 bt367.2.2.1 bt367.2.2.2.1).bind fun t387 => (if t387 = true then (if bt378.2.2.2 = 17 then (if bt385.1.toList = ([1, 16, 1, 2, 1, 2, 1, 1, 1, 3, 1, 1, 120] : List UInt8) then (some (bt385.2 == 0)) else (some false)) else (some false)) else (some false))) else (some false)) else (some false)) else (some false)) else (some false)))))))
theorem gafferlaw05_lives.mono : ∀ k, LeO (gafferlaw05_lives.f k ) (gafferlaw05_lives.f (k + 1) ) := by
 intro  k
 unfold gafferlaw05_lives.f
 repeat' with_reducible first | exact gafferref05_Same.mono _ _ _ _ _ _ _ _ _ | exact snap_Encode.mono _ _ _ _ _ | exact snap_Load.mono _ _ _ _ | exact snap_Save.mono _ _ _ _ _ _ _ _ | exact LeO.refl _ | exact LeO.none _ | refine LeO.ite ?_ ?_ | refine LeO.bind ?_ (fun _ => ?_)
theorem gafferlaw05_lives.only (k : Nat) (r : Bool) (h : gafferlaw05_lives.f k = some r) : r = true := by
 have h1 : gafferlaw05_lives.f (k + 200) = some r := at_rounds (fun k => gafferlaw05_lives.mono k) (Nat.le_add_right _ _) h
 have h2 : gafferlaw05_lives.f (k + 200) = some true := at_rounds (g := fun k => gafferlaw05_lives.f k) (fun k => gafferlaw05_lives.mono k) (Nat.le_add_left 200 k) (show gafferlaw05_lives.f 200 = some true by decide +kernel)
 rw [h1] at h2
 injection h2
theorem gafferlaw05_lives.calls (k : Nat)  (r : Bool) (w : World) (h : gafferlaw05_lives.f k  = some r) :
  Calls Try.prog 29 #[] w fun e w' => e = .returned (.bool r) ∧ Below w.heap.size w w' := by
 have hr : r = true := gafferlaw05_lives.only k r h
 have hu48 := Try.underlying48
 have hu24 := Try.underlying24
 have HB := a_ (Below.refl w.heap.size w)
 have H : ((some (([1, 3] : List Int) : List Int)).bind fun y348 => ((snap_Load.f k ([] : List (S71)) false (-1)).bind fun bt352 => ((snap_Save.f k ([] : List (S71)) false (-1) 16 2 y348 (⟨#[120]⟩ : ByteArray)).bind fun bt360 => ((snap_Load.f k bt360.1 bt360.2.1 bt360.2.2.1).bind fun bt367 => ((snap_Save.f k bt360.1 bt360.2.1 bt360.2.2.1 4 0 (([1] : List Int)) (⟨#[]⟩ : ByteArray)).bind fun bt378 => ((snap_Encode.f k 16 2 y348 (⟨#[120]⟩ : ByteArray)).bind fun bt385 => (if bt352.1 = 0 then (if bt352.2.2.2.2 = 0 then (if bt360.2.2.2 = 0 then (if bt367.2.2.2.2 = 0 then ((gafferref05_Same.f k 16 2 y348 (⟨#[120]⟩ : ByteArray) bt367.1 bt367.2.1 bt367.2.2.1 bt367.2.2.2.1).bind fun t387 => (if t387 = true then (if bt378.2.2.2 = 17 then (if bt385.1.toList = ([1, 16, 1, 2, 1, 2, 1, 1, 1, 3, 1, 1, 120] : List UInt8) then (some (bt385.2 == 0)) else (some false)) else (some false)) else (some false))) else (some false)) else (some false)) else (some false)) else (some false)))))))) = some r := h
 clear h
 obtain ⟨y348, hy348⟩ : ∃ y_ : List Int, y_ = (([1, 3] : List Int)) := ⟨_, rfl⟩
 replace H : ((snap_Load.f k ([] : List (S71)) false (-1)).bind fun bt352 => ((snap_Save.f k ([] : List (S71)) false (-1) 16 2 y348 (⟨#[120]⟩ : ByteArray)).bind fun bt360 => ((snap_Load.f k bt360.1 bt360.2.1 bt360.2.2.1).bind fun bt367 => ((snap_Save.f k bt360.1 bt360.2.1 bt360.2.2.1 4 0 (([1] : List Int)) (⟨#[]⟩ : ByteArray)).bind fun bt378 => ((snap_Encode.f k 16 2 y348 (⟨#[120]⟩ : ByteArray)).bind fun bt385 => (if bt352.1 = 0 then (if bt352.2.2.2.2 = 0 then (if bt360.2.2.2 = 0 then (if bt367.2.2.2.2 = 0 then ((gafferref05_Same.f k 16 2 y348 (⟨#[120]⟩ : ByteArray) bt367.1 bt367.2.1 bt367.2.2.1 bt367.2.2.2.1).bind fun t387 => (if t387 = true then (if bt378.2.2.2 = 17 then (if bt385.1.toList = ([1, 16, 1, 2, 1, 2, 1, 1, 1, 3, 1, 1, 120] : List UInt8) then (some (bt385.2 == 0)) else (some false)) else (some false)) else (some false))) else (some false)) else (some false)) else (some false)) else (some false))))))) = some r := by first | (rw [hy348]; with_reducible exact H) | (have H2_ := (Option.bind_some _ _).symm.trans H; rw [hy348]; with_reducible exact H2_) | (have H2_ := (Option.bind_some _ _).symm.trans H; with_reducible exact H2_) | with_reducible exact H | (rw [hy348]; exact H) | exact H
 have Ny348 := a_ hy348
 clear hy348
 obtain ⟨⟨t352, t353, t354, t357, t358⟩, A10, H⟩ := Option.bind_eq_some_iff.mp H
 try dsimp only at H
 have A1 := a_ A10
 clear A10
 obtain ⟨⟨t360, t363, t364, t365⟩, A20, H⟩ := Option.bind_eq_some_iff.mp H
 try dsimp only at H
 have A2 := a_ A20
 clear A20
 obtain ⟨⟨t367, t368, t369, t372, t373⟩, A30, H⟩ := Option.bind_eq_some_iff.mp H
 try dsimp only at H
 have A3 := a_ A30
 clear A30
 obtain ⟨y375, hy375⟩ : ∃ y_ : List Int, y_ = (([1] : List Int)) := ⟨_, rfl⟩
 replace H : ((snap_Save.f k t360 t363 t364 4 0 y375 (⟨#[]⟩ : ByteArray)).bind fun bt378 => ((snap_Encode.f k 16 2 y348 (⟨#[120]⟩ : ByteArray)).bind fun bt385 => (if t352 = 0 then (if t358 = 0 then (if t365 = 0 then (if t373 = 0 then ((gafferref05_Same.f k 16 2 y348 (⟨#[120]⟩ : ByteArray) t367 t368 t369 t372).bind fun t387 => (if t387 = true then (if bt378.2.2.2 = 17 then (if bt385.1.toList = ([1, 16, 1, 2, 1, 2, 1, 1, 1, 3, 1, 1, 120] : List UInt8) then (some (bt385.2 == 0)) else (some false)) else (some false)) else (some false))) else (some false)) else (some false)) else (some false)) else (some false)))) = some r := by first | (rw [hy375]; with_reducible exact H) | (have H2_ := (Option.bind_some _ _).symm.trans H; rw [hy375]; with_reducible exact H2_) | (have H2_ := (Option.bind_some _ _).symm.trans H; with_reducible exact H2_) | with_reducible exact H | (rw [hy375]; exact H) | exact H
 have Ny375 := a_ hy375
 clear hy375
 obtain ⟨⟨t378, t381, t382, t383⟩, A40, H⟩ := Option.bind_eq_some_iff.mp H
 try dsimp only at H
 have A4 := a_ A40
 clear A40
 obtain ⟨⟨t385, t386⟩, A50, H⟩ := Option.bind_eq_some_iff.mp H
 try dsimp only at H
 have A5 := a_ A50
 clear A50
 by_cases c6 : t352 = 0
 rotate_left
 ·rw [if_neg c6] at H
  have c6b0 : (t352 == 0) = false := beq_eq_false_iff_ne.mpr c6
  have c6b1 : (t352 != 0) = true := bne_iff_ne.mpr c6
  exact absurd (H.trans (congrArg some hr)) (by simp)


 rw [if_pos c6] at H
 have c6b0 : (t352 == 0) = true := beq_iff_eq.mpr c6
 have c6b1 : (t352 != 0) = false := bne_eq_false_iff_eq.mpr c6
 clear c6
 by_cases c7 : t358 = 0
 rotate_left
 ·rw [if_neg c7] at H
  have c7b0 : (t358 == 0) = false := beq_eq_false_iff_ne.mpr c7
  have c7b1 : (t358 != 0) = true := bne_iff_ne.mpr c7
  exact absurd (H.trans (congrArg some hr)) (by simp)
 rw [if_pos c7] at H
 have c7b0 : (t358 == 0) = true := beq_iff_eq.mpr c7
 have c7b1 : (t358 != 0) = false := bne_eq_false_iff_eq.mpr c7
 clear c7
 by_cases c8 : t365 = 0
 rotate_left
 ·rw [if_neg c8] at H
  have c8b0 : (t365 == 0) = false := beq_eq_false_iff_ne.mpr c8
  have c8b1 : (t365 != 0) = true := bne_iff_ne.mpr c8
  exact absurd (H.trans (congrArg some hr)) (by simp)
 rw [if_pos c8] at H
 have c8b0 : (t365 == 0) = true := beq_iff_eq.mpr c8
 have c8b1 : (t365 != 0) = false := bne_eq_false_iff_eq.mpr c8
 clear c8
 by_cases c9 : t373 = 0
 rotate_left
 ·rw [if_neg c9] at H
  have c9b0 : (t373 == 0) = false := beq_eq_false_iff_ne.mpr c9
  have c9b1 : (t373 != 0) = true := bne_iff_ne.mpr c9
  exact absurd (H.trans (congrArg some hr)) (by simp)
 rw [if_pos c9] at H
 have c9b0 : (t373 == 0) = true := beq_iff_eq.mpr c9
 have c9b1 : (t373 != 0) = false := bne_eq_false_iff_eq.mpr c9
 clear c9
 obtain ⟨t387, A100, H⟩ := Option.bind_eq_some_iff.mp H
 try dsimp only at H
 have A10 := a_ A100
 clear A100
 by_cases c11 : t387 = true
 rotate_left
 ·replace c11 := Bool.eq_false_iff.mpr c11
  subst c11
  have H1 : (some false) = some r := by rw [if_neg (show ¬ (false = true) by decide)] at H; exact H
  clear H
  have H := H1
  clear H1
  exact absurd (H.trans (congrArg some hr)) (by simp)
 subst c11
 have H1 : (if t383 = 17 then (if t385.toList = ([1, 16, 1, 2, 1, 2, 1, 1, 1, 3, 1, 1, 120] : List UInt8) then (some (t386 == 0)) else (some false)) else (some false)) = some r := by rw [if_pos rfl] at H; exact H
 clear H
 have H := H1
 clear H1
 by_cases c12 : t383 = 17
 rotate_left
 ·rw [if_neg c12] at H
  have c12b0 : (t383 == 17) = false := beq_eq_false_iff_ne.mpr c12
  have c12b1 : (t383 != 17) = true := bne_iff_ne.mpr c12
  exact absurd (H.trans (congrArg some hr)) (by simp)
 rw [if_pos c12] at H
 have c12b0 : (t383 == 17) = true := beq_iff_eq.mpr c12
 have c12b1 : (t383 != 17) = false := bne_eq_false_iff_eq.mpr c12
 clear c12
 by_cases c13 : t385.toList = ([1, 16, 1, 2, 1, 2, 1, 1, 1, 3, 1, 1, 120] : List UInt8)
 rotate_left
 ·rw [if_neg c13] at H
  have c13b0 : (t385.toList == ([1, 16, 1, 2, 1, 2, 1, 1, 1, 3, 1, 1, 120] : List UInt8)) = false := beq_eq_false_iff_ne.mpr c13
  have c13b1 : (t385.toList != ([1, 16, 1, 2, 1, 2, 1, 1, 1, 3, 1, 1, 120] : List UInt8)) = true := bne_iff_ne.mpr c13
  exact absurd (H.trans (congrArg some hr)) (by simp)
 rw [if_pos c13] at H
 have c13b0 : (t385.toList == ([1, 16, 1, 2, 1, 2, 1, 1, 1, 3, 1, 1, 120] : List UInt8)) = true := beq_iff_eq.mpr c13
 have c13b1 : (t385.toList != ([1, 16, 1, 2, 1, 2, 1, 1, 1, 3, 1, 1, 120] : List UInt8)) = false := bne_eq_false_iff_eq.mpr c13
 clear c13
 obtain rfl := Option.some.inj H
 go_enter Try.func29, Try.ntmps29
 go_wp2_with (first | ((with_reducible refine gd_ 12 ?_); refine Kd.R_lit (Kd.int .i64) _ 3 ?hg (N := 12) ?hd (xs := ([1, 3] : List Int)) (inner := [.int .i64 1, .int .i64 3]) (ok := fun _ => True) (okp := fun _ => True) ?hr ?hp (fun _ hk => hk) trivial (Below.refl _ _) (Nat.le_refl _) (by simp) ?_; (case hd => rfl); (case hg => rfl); (case hr => first | (go_simp; done) | (go_simp; rfl)); (case hp => exact (Reps.one (show Kd.M (Kd.int .i64) _ _ _ 1 [.int .i64 1] from rfl) (Reps.one (show Kd.M (Kd.int .i64) _ _ _ 3 [.int .i64 3] from rfl) (Reps.none _ _)))); intro v349 w14 ho15 hb hg_ hnew_; clear hg_ hnew_; (first | rw [← Ny348.out] at ho15 | (simp only [Int.reduceToNat] at ho15; rw [← Ny348.out] at ho15)); have HO350 := a_ (Kd.R_lower ho15 (below_size (bl_ HB))); replace HB := hB_ (bl_ HB) hb; clear hb ho15; obtain ⟨Ao16, co16, eo16⟩ := Kd.R_slice HO350.out; subst eo16) | ((with_reducible refine gd_ 1 ?_); refine bx_ 1 #[.int .u64 0, .int .u64 0, .slice none 0 0, .string (⟨#[]⟩ : ByteArray)] 48 ?_; intro gb351 hg w17 hbox hb; replace HO350 := a_ (Kd.R_below (by refine rq_ ?_; exact HO350.out) hb); have BK351 := a_ (hbox); have GE351 := a_ (bs_0 hg HB); replace HB := hB_ (bl_ HB) hb; clear hb hbox hg; obtain ⟨hcz18_0, hcz18_1, hcz18_2, hcz18_3, hfz18_0, hfz18_1, hfz18_2, hfz18_3⟩ := c4_ BK351) | ((with_reducible refine gk_ 33 ?_); refine gl_ (some 16) Try.func33 #[.agg #[.slice none 0 0, .bool false, .int .i64 (-1)]] ?_; (refine (snap_Load.calls k _ _ ([] : List (S71)) false (-1) t352 t353 t354 t357 t358 _ ?side1 ?side2 A1.out).mono ?_); (case side1 => exact Kd.C_nil _ _); (case side2 => exact Nat.le_refl _); rintro e w19 ⟨v355, rfl, ho0, hb⟩; (try clear A1); refine ⟨_, rfl, ?_⟩; have HO356 := a_ (Kd.R_lower (Kd.R_new' ho0 (Kd.R_lt (by refine rq_ ?_; exact (Kd.R_mono (Kd.R_far (p := ⟨gb351, 3, none⟩) (Kd.R_far (p := ⟨gb351, 2, none⟩) (Kd.R_far (p := ⟨gb351, 1, none⟩) (Kd.R_far (p := ⟨gb351, 0, none⟩) (Kd.R_types HO350.out BK351.out (by decide)) (fun _ hk => hk.2) (.int .u64 16)) (fun _ hk => hk.2) (.int .u64 2)) (fun _ hk => hk.2) (.slice Ao16 y348.length co16)) (fun _ hk => hk.2) (.string (⟨#[120]⟩ : ByteArray))) (fun _ h_ => h_.1))))) (below_size (bl_1 HB GE351))); replace HO350 := a_ (Kd.R_elder' (by refine rq_ ?_; exact (Kd.R_mono (Kd.R_far (p := ⟨gb351, 3, none⟩) (Kd.R_far (p := ⟨gb351, 2, none⟩) (Kd.R_far (p := ⟨gb351, 1, none⟩) (Kd.R_far (p := ⟨gb351, 0, none⟩) (Kd.R_types HO350.out BK351.out (by decide)) (fun _ hk => hk.2) (.int .u64 16)) (fun _ hk => hk.2) (.int .u64 2)) (fun _ hk => hk.2) (.slice Ao16 y348.length co16)) (fun _ hk => hk.2) (.string (⟨#[120]⟩ : ByteArray))) (fun _ h_ => h_.1))) (Kd.R_base ho0) hb); replace BK351 := a_ (blk_below (g := gb351) (o := .cells #[.int .u64 16, .int .u64 2, .slice Ao16 y348.length co16, .string (⟨#[120]⟩ : ByteArray)] 48 (0, 0)) (bp_0 BK351) hb); replace HB := hB_ (bl_1 HB GE351) hb; (try clear hb); (try clear ho0)) | ((with_reducible refine gd_ 2 ?_); refine bx_ 2 #[.int .u64 0, .int .u64 0, .slice none 0 0, .string (⟨#[]⟩ : ByteArray)] 48 ?_; intro gb359 hg w20 hbox hb; replace HO350 := a_ (Kd.R_below (by refine rq_ ?_; exact HO350.out) hb); replace HO356 := a_ (Kd.R_below (by refine rq_ ?_; exact HO356.out) hb); have BK359 := a_ (hbox); have GE359 := a_ (bs_1 hg HB GE351); replace HB := hB_ (bl_1 HB GE351) hb; have NB351_359 := nB_ hg BK351; have NB359_351 := nC_ hg BK351; replace BK351 := bB_ BK351 hb; clear hb hbox hg; have hnb21 := NB359_351.out; have hnc21 := NB351_359.out; obtain ⟨hcz22_0, hcz22_1, hcz22_2, hcz22_3, hfz22_0, hfz22_1, hfz22_2, hfz22_3⟩ := c4_ BK359; obtain ⟨Ao23, co23, eo23⟩ := Kd.R_slice HO356.out; subst eo23; obtain ⟨hcz24_0, hcz24_1, hcz24_2, hcz24_3, hfz24_0, hfz24_1, hfz24_2, hfz24_3⟩ := c4_ BK351) | ((with_reducible refine gk_ 35 ?_); refine gl_ (some 22) Try.func35 #[.agg #[.slice none 0 0, .bool false, .int .i64 (-1)], .agg #[.int .u64 16, .int .u64 2, .slice Ao16 y348.length co16, .string (⟨#[120]⟩ : ByteArray)]] ?_; (refine (snap_Save.calls k _ _ ([] : List (S71)) false (-1) 16 2 _ _ y348 (⟨#[120]⟩ : ByteArray) t360 t363 t364 t365 _ ?side1 ?side2 ?side3 ?side4 A2.out).mono ?_); (case side1 => exact Kd.C_nil _ _); (case side2 => exact Nat.le_refl _); (case side3 => refine (Kd.R_reads' (e := 3) (base := w.heap.size) (ok := fun k_ => (True ∧ some k_ ≠ (.slice Ao23 t354.length co23 : Value).ownBlock)) (n := y348.length) (c := co16) ?_).2.2; exact (by refine rq_ ?_; exact (Kd.R_mono (Kd.R_far (p := ⟨gb359, 3, none⟩) (Kd.R_far (p := ⟨gb359, 2, none⟩) (Kd.R_far (p := ⟨gb359, 1, none⟩) (Kd.R_far (p := ⟨gb359, 0, none⟩) (Kd.R_types HO350.out BK359.out (by decide)) (fun _ hk => hk.2) (.int .u64 t352)) (fun _ hk => hk.2) (.int .u64 t353)) (fun _ hk => hk.2) (.slice Ao23 t354.length co23)) (fun _ hk => hk.2) (.string t357)) (fun _ h_ => h_.1)))); (case side4 => exact (Kd.R_reads' HO350.out).2.1); rintro e w25 ⟨v361, rfl, ho0, hb⟩; (try clear A2); refine ⟨_, rfl, ?_⟩; replace HO350 := a_ (Kd.R_below (by refine rq_ ?_; exact (Kd.R_mono (Kd.R_far (p := ⟨gb359, 3, none⟩) (Kd.R_far (p := ⟨gb359, 2, none⟩) (Kd.R_far (p := ⟨gb359, 1, none⟩) (Kd.R_far (p := ⟨gb359, 0, none⟩) (Kd.R_types HO350.out BK359.out (by decide)) (fun _ hk => hk.2) (.int .u64 t352)) (fun _ hk => hk.2) (.int .u64 t353)) (fun _ hk => hk.2) (.slice Ao23 t354.length co23)) (fun _ hk => hk.2) (.string t357)) (fun _ h_ => h_.1))) hb); replace HO356 := a_ (Kd.R_below (by refine rq_ ?_; exact (Kd.R_mono (Kd.R_far (p := ⟨gb359, 3, none⟩) (Kd.R_far (p := ⟨gb359, 2, none⟩) (Kd.R_far (p := ⟨gb359, 1, none⟩) (Kd.R_far (p := ⟨gb359, 0, none⟩) (Kd.R_types HO356.out BK359.out (by decide)) (fun _ hk => hk.2) (.int .u64 t352)) (fun _ hk => hk.2) (.int .u64 t353)) (fun _ hk => hk.2) (.slice Ao23 t354.length co23)) (fun _ hk => hk.2) (.string t357)) (fun _ h_ => h_.1))) hb); have HO362 := a_ (Kd.R_lower ho0 (below_size (bl_2 HB GE351 GE359))); replace BK351 := a_ (blk_below (g := gb351) (o := .cells #[.int .u64 16, .int .u64 2, .slice Ao16 y348.length co16, .string (⟨#[120]⟩ : ByteArray)] 48 (0, 0)) (bp_1 BK351 NB351_359) hb); replace BK359 := a_ (blk_below (g := gb359) (o := .cells #[.int .u64 t352, .int .u64 t353, .slice Ao23 t354.length co23, .string t357] 48 (0, 0)) (bp_0 BK359) hb); replace HB := hB_ (bl_2 HB GE351 GE359) hb; (try clear hb); (try clear ho0)) | ((with_reducible refine gd_ 4 ?_); refine bx_ 4 #[.slice none 0 0, .bool false, .int .i64 0] 24 ?_; intro gb366 hg w26 hbox hb; replace HO350 := a_ (Kd.R_below (by refine rq_ ?_; exact HO350.out) hb); replace HO356 := a_ (Kd.R_below (by refine rq_ ?_; exact HO356.out) hb); replace HO362 := a_ (Kd.R_below (by refine rq_ ?_; exact HO362.out) hb); have BK366 := a_ (hbox); have GE366 := a_ (bs_2 hg HB GE351 GE359); replace HB := hB_ (bl_2 HB GE351 GE359) hb; have NB351_366 := nB_ hg BK351; have NB366_351 := nC_ hg BK351; replace BK351 := bB_ BK351 hb; have NB359_366 := nB_ hg BK359; have NB366_359 := nC_ hg BK359; replace BK359 := bB_ BK359 hb; clear hb hbox hg; obtain ⟨Ao27, co27, eo27⟩ := Kd.R_slice HO362.out; subst eo27; have hnb28 := NB366_351.out; have hnc28 := NB351_366.out; have hnb29 := NB366_359.out; have hnc29 := NB359_366.out; obtain ⟨hcz30_0, hcz30_1, hcz30_2, hfz30_0, hfz30_1, hfz30_2⟩ := c3_ BK366) | ((with_reducible refine gk_ 33 ?_); refine gl_ (some 27) Try.func33 #[.agg #[.slice Ao27 t360.length co27, .bool t363, .int .i64 t364]] ?_; (with_reducible refine (snap_Load.calls k _ _ t360 t363 t364 t367 t368 t369 t372 t373 _ ?side1 ?side2 A3.out).mono ?_); (case side1 => refine (Kd.R_reads' (e := 71) (base := w.heap.size) (ok := fun k_ => True) (n := t360.length) (c := co27) ?_).2.2; exact (by refine rq_ ?_; exact (Kd.R_mono (Kd.R_far (p := ⟨gb366, 2, none⟩) (Kd.R_far (p := ⟨gb366, 1, none⟩) (Kd.R_far (p := ⟨gb366, 0, none⟩) (Kd.R_types HO362.out BK366.out (by decide)) (fun _ hk => hk.2) (.slice Ao27 t360.length co27)) (fun _ hk => hk.2) (.bool t363)) (fun _ hk => hk.2) (.int .i64 t364)) (fun _ h_ => h_.1)))); (case side2 => exact (Kd.R_reads' HO362.out).2.1); rintro e w31 ⟨v370, rfl, ho0, hb⟩; refine ⟨_, rfl, ?_⟩; replace HO362 := a_ (Kd.R_below (by refine rq_ ?_; exact (Kd.R_mono (Kd.R_far (p := ⟨gb366, 2, none⟩) (Kd.R_far (p := ⟨gb366, 1, none⟩) (Kd.R_far (p := ⟨gb366, 0, none⟩) (Kd.R_types HO362.out BK366.out (by decide)) (fun _ hk => hk.2) (.slice Ao27 t360.length co27)) (fun _ hk => hk.2) (.bool t363)) (fun _ hk => hk.2) (.int .i64 t364)) (fun _ h_ => h_.1))) hb); have HO371 := a_ (Kd.R_lower (Kd.R_new' (Kd.R_new' ho0 (Kd.R_lt (by refine rq_ ?_; exact (Kd.R_mono (Kd.R_far (p := ⟨gb366, 2, none⟩) (Kd.R_far (p := ⟨gb366, 1, none⟩) (Kd.R_far (p := ⟨gb366, 0, none⟩) (Kd.R_types HO350.out BK366.out (by decide)) (fun _ hk => hk.2) (.slice Ao27 t360.length co27)) (fun _ hk => hk.2) (.bool t363)) (fun _ hk => hk.2) (.int .i64 t364)) (fun _ h_ => h_.1))))) (Kd.R_lt (by refine rq_ ?_; exact (Kd.R_mono (Kd.R_far (p := ⟨gb366, 2, none⟩) (Kd.R_far (p := ⟨gb366, 1, none⟩) (Kd.R_far (p := ⟨gb366, 0, none⟩) (Kd.R_types HO356.out BK366.out (by decide)) (fun _ hk => hk.2) (.slice Ao27 t360.length co27)) (fun _ hk => hk.2) (.bool t363)) (fun _ hk => hk.2) (.int .i64 t364)) (fun _ h_ => h_.1))))) (below_size (bl_3 HB GE351 GE359 GE366))); replace HO350 := a_ (Kd.R_elder' (by refine rq_ ?_; exact (Kd.R_mono (Kd.R_far (p := ⟨gb366, 2, none⟩) (Kd.R_far (p := ⟨gb366, 1, none⟩) (Kd.R_far (p := ⟨gb366, 0, none⟩) (Kd.R_types HO350.out BK366.out (by decide)) (fun _ hk => hk.2) (.slice Ao27 t360.length co27)) (fun _ hk => hk.2) (.bool t363)) (fun _ hk => hk.2) (.int .i64 t364)) (fun _ h_ => h_.1))) (Kd.R_base ho0) hb); replace HO356 := a_ (Kd.R_elder' (by refine rq_ ?_; exact (Kd.R_mono (Kd.R_far (p := ⟨gb366, 2, none⟩) (Kd.R_far (p := ⟨gb366, 1, none⟩) (Kd.R_far (p := ⟨gb366, 0, none⟩) (Kd.R_types HO356.out BK366.out (by decide)) (fun _ hk => hk.2) (.slice Ao27 t360.length co27)) (fun _ hk => hk.2) (.bool t363)) (fun _ hk => hk.2) (.int .i64 t364)) (fun _ h_ => h_.1))) (Kd.R_base ho0) hb); replace BK351 := a_ (blk_below (g := gb351) (o := .cells #[.int .u64 16, .int .u64 2, .slice Ao16 y348.length co16, .string (⟨#[120]⟩ : ByteArray)] 48 (0, 0)) (bp_1 BK351 NB351_366) hb); replace BK359 := a_ (blk_below (g := gb359) (o := .cells #[.int .u64 t352, .int .u64 t353, .slice Ao23 t354.length co23, .string t357] 48 (0, 0)) (bp_1 BK359 NB359_366) hb); replace BK366 := a_ (blk_below (g := gb366) (o := .cells #[.slice Ao27 t360.length co27, .bool t363, .int .i64 t364] 24 (0, 0)) (bp_0 BK366) hb); replace HB := hB_ (bl_3 HB GE351 GE359 GE366) hb; (try clear hb); (try clear ho0)) | ((with_reducible refine gd_ 6 ?_); refine bx_ 6 #[.int .u64 0, .int .u64 0, .slice none 0 0, .string (⟨#[]⟩ : ByteArray)] 48 ?_; intro gb374 hg w32 hbox hb; replace HO350 := a_ (Kd.R_below (by refine rq_ ?_; exact HO350.out) hb); replace HO356 := a_ (Kd.R_below (by refine rq_ ?_; exact HO356.out) hb); replace HO362 := a_ (Kd.R_below (by refine rq_ ?_; exact HO362.out) hb); replace HO371 := a_ (Kd.R_below (by refine rq_ ?_; exact HO371.out) hb); have BK374 := a_ (hbox); have GE374 := a_ (bs_3 hg HB GE351 GE359 GE366); replace HB := hB_ (bl_3 HB GE351 GE359 GE366) hb; have NB351_374 := nB_ hg BK351; have NB374_351 := nC_ hg BK351; replace BK351 := bB_ BK351 hb; have NB359_374 := nB_ hg BK359; have NB374_359 := nC_ hg BK359; replace BK359 := bB_ BK359 hb; have NB366_374 := nB_ hg BK366; have NB374_366 := nC_ hg BK366; replace BK366 := bB_ BK366 hb; clear hb hbox hg; have hnb33 := NB374_351.out; have hnc33 := NB351_374.out; have hnb34 := NB374_359.out; have hnc34 := NB359_374.out; have hnb35 := NB374_366.out; have hnc35 := NB366_374.out; obtain ⟨hcz36_0, hcz36_1, hcz36_2, hcz36_3, hfz36_0, hfz36_1, hfz36_2, hfz36_3⟩ := c4_ BK374; obtain ⟨Ao37, co37, eo37⟩ := Kd.R_slice HO371.out; subst eo37; obtain ⟨hcz38_0, hcz38_1, hcz38_2, hfz38_0, hfz38_1, hfz38_2⟩ := c3_ BK366) | ((with_reducible refine gd_ 32 ?_); refine Kd.R_lit (Kd.int .i64) _ 3 ?hg (N := 32) ?hd (xs := ([1] : List Int)) (inner := [.int .i64 1]) (ok := fun _ => True) (okp := fun _ => True) ?hr ?hp (fun _ hk => hk) trivial (Below.refl _ _) (Nat.le_refl _) (by simp) ?_; (case hd => rfl); (case hg => rfl); (case hr => first | (go_simp; done) | (go_simp; rfl)); (case hp => exact (Reps.one (show Kd.M (Kd.int .i64) _ _ _ 1 [.int .i64 1] from rfl) (Reps.none _ _))); intro v376 w39 ho40 hb hg_ hnew_; clear hg_ hnew_; (first | rw [← Ny375.out] at ho40 | (simp only [Int.reduceToNat] at ho40; rw [← Ny375.out] at ho40)); replace HO362 := a_ (Kd.R_below (by refine rq_ ?_; exact (Kd.R_mono (Kd.R_far (p := ⟨gb374, 3, none⟩) (Kd.R_far (p := ⟨gb374, 2, none⟩) (Kd.R_far (p := ⟨gb374, 1, none⟩) (Kd.R_far (p := ⟨gb374, 0, none⟩) (Kd.R_types HO362.out BK374.out (by decide)) (fun _ hk => hk.2) (.int .u64 t367)) (fun _ hk => hk.2) (.int .u64 t368)) (fun _ hk => hk.2) (.slice Ao37 t369.length co37)) (fun _ hk => hk.2) (.string t372)) (fun _ h_ => h_.1))) hb); have HO377 := a_ (Kd.R_lower (Kd.R_new' (Kd.R_new' (Kd.R_new' ho40 (Kd.R_lt (by refine rq_ ?_; exact (Kd.R_mono (Kd.R_far (p := ⟨gb374, 3, none⟩) (Kd.R_far (p := ⟨gb374, 2, none⟩) (Kd.R_far (p := ⟨gb374, 1, none⟩) (Kd.R_far (p := ⟨gb374, 0, none⟩) (Kd.R_types HO350.out BK374.out (by decide)) (fun _ hk => hk.2) (.int .u64 t367)) (fun _ hk => hk.2) (.int .u64 t368)) (fun _ hk => hk.2) (.slice Ao37 t369.length co37)) (fun _ hk => hk.2) (.string t372)) (fun _ h_ => h_.1))))) (Kd.R_lt (by refine rq_ ?_; exact (Kd.R_mono (Kd.R_far (p := ⟨gb374, 3, none⟩) (Kd.R_far (p := ⟨gb374, 2, none⟩) (Kd.R_far (p := ⟨gb374, 1, none⟩) (Kd.R_far (p := ⟨gb374, 0, none⟩) (Kd.R_types HO356.out BK374.out (by decide)) (fun _ hk => hk.2) (.int .u64 t367)) (fun _ hk => hk.2) (.int .u64 t368)) (fun _ hk => hk.2) (.slice Ao37 t369.length co37)) (fun _ hk => hk.2) (.string t372)) (fun _ h_ => h_.1))))) (Kd.R_lt (by refine rq_ ?_; exact (Kd.R_mono (Kd.R_far (p := ⟨gb374, 3, none⟩) (Kd.R_far (p := ⟨gb374, 2, none⟩) (Kd.R_far (p := ⟨gb374, 1, none⟩) (Kd.R_far (p := ⟨gb374, 0, none⟩) (Kd.R_types HO371.out BK374.out (by decide)) (fun _ hk => hk.2) (.int .u64 t367)) (fun _ hk => hk.2) (.int .u64 t368)) (fun _ hk => hk.2) (.slice Ao37 t369.length co37)) (fun _ hk => hk.2) (.string t372)) (fun _ h_ => h_.1))))) (below_size (bl_4 HB GE351 GE359 GE366 GE374))); replace HO350 := a_ (Kd.R_elder' (by refine rq_ ?_; exact (Kd.R_mono (Kd.R_far (p := ⟨gb374, 3, none⟩) (Kd.R_far (p := ⟨gb374, 2, none⟩) (Kd.R_far (p := ⟨gb374, 1, none⟩) (Kd.R_far (p := ⟨gb374, 0, none⟩) (Kd.R_types HO350.out BK374.out (by decide)) (fun _ hk => hk.2) (.int .u64 t367)) (fun _ hk => hk.2) (.int .u64 t368)) (fun _ hk => hk.2) (.slice Ao37 t369.length co37)) (fun _ hk => hk.2) (.string t372)) (fun _ h_ => h_.1))) (Kd.R_base ho40) hb); replace HO356 := a_ (Kd.R_elder' (by refine rq_ ?_; exact (Kd.R_mono (Kd.R_far (p := ⟨gb374, 3, none⟩) (Kd.R_far (p := ⟨gb374, 2, none⟩) (Kd.R_far (p := ⟨gb374, 1, none⟩) (Kd.R_far (p := ⟨gb374, 0, none⟩) (Kd.R_types HO356.out BK374.out (by decide)) (fun _ hk => hk.2) (.int .u64 t367)) (fun _ hk => hk.2) (.int .u64 t368)) (fun _ hk => hk.2) (.slice Ao37 t369.length co37)) (fun _ hk => hk.2) (.string t372)) (fun _ h_ => h_.1))) (Kd.R_base ho40) hb); replace HO371 := a_ (Kd.R_elder' (by refine rq_ ?_; exact (Kd.R_mono (Kd.R_far (p := ⟨gb374, 3, none⟩) (Kd.R_far (p := ⟨gb374, 2, none⟩) (Kd.R_far (p := ⟨gb374, 1, none⟩) (Kd.R_far (p := ⟨gb374, 0, none⟩) (Kd.R_types HO371.out BK374.out (by decide)) (fun _ hk => hk.2) (.int .u64 t367)) (fun _ hk => hk.2) (.int .u64 t368)) (fun _ hk => hk.2) (.slice Ao37 t369.length co37)) (fun _ hk => hk.2) (.string t372)) (fun _ h_ => h_.1))) (Kd.R_base ho40) hb); replace BK351 := a_ (blk_below (g := gb351) (o := .cells #[.int .u64 16, .int .u64 2, .slice Ao16 y348.length co16, .string (⟨#[120]⟩ : ByteArray)] 48 (0, 0)) (bp_1 BK351 NB351_374) hb); replace BK359 := a_ (blk_below (g := gb359) (o := .cells #[.int .u64 t352, .int .u64 t353, .slice Ao23 t354.length co23, .string t357] 48 (0, 0)) (bp_1 BK359 NB359_374) hb); replace BK366 := a_ (blk_below (g := gb366) (o := .cells #[.slice Ao27 t360.length co27, .bool t363, .int .i64 t364] 24 (0, 0)) (bp_1 BK366 NB366_374) hb); replace BK374 := a_ (blk_below (g := gb374) (o := .cells #[.int .u64 t367, .int .u64 t368, .slice Ao37 t369.length co37, .string t372] 48 (0, 0)) (bp_0 BK374) hb); replace HB := hB_ (bl_4 HB GE351 GE359 GE366 GE374) hb; clear hb ho40; obtain ⟨Ao41, co41, eo41⟩ := Kd.R_slice HO377.out; subst eo41) | ((with_reducible refine gk_ 35 ?_); refine gl_ (some 34) Try.func35 #[.agg #[.slice Ao27 t360.length co27, .bool t363, .int .i64 t364], .agg #[.int .u64 4, .int .u64 0, .slice Ao41 y375.length co41, .string (⟨#[]⟩ : ByteArray)]] ?_; (with_reducible refine (snap_Save.calls k _ _ t360 t363 t364 4 0 _ _ y375 (⟨#[]⟩ : ByteArray) t378 t381 t382 t383 _ ?side1 ?side2 ?side3 ?side4 A4.out).mono ?_); (case side1 => exact cl_ ((Kd.R_reads' HO362.out).2.2)); (case side2 => exact (Kd.R_reads' HO362.out).2.1); (case side3 => exact cl_ ((Kd.R_reads' HO377.out).2.2)); (case side4 => exact (Kd.R_reads' HO377.out).2.1); rintro e w42 ⟨v379, rfl, ho0, hb⟩; refine ⟨_, rfl, ?_⟩; replace HO350 := a_ (Kd.R_below (by refine rq_ ?_; exact HO350.out) hb); replace HO356 := a_ (Kd.R_below (by refine rq_ ?_; exact HO356.out) hb); replace HO371 := a_ (Kd.R_below (by refine rq_ ?_; exact HO371.out) hb); replace HO377 := a_ (Kd.R_below (by refine rq_ ?_; exact HO377.out) hb); have HO380 := a_ (Kd.R_lower (Kd.R_new' ho0 (Kd.R_lt (by refine rq_ ?_; exact HO362.out))) (below_size (bl_4 HB GE351 GE359 GE366 GE374))); replace HO362 := a_ (Kd.R_elder' (by refine rq_ ?_; exact HO362.out) (Kd.R_base ho0) hb); replace BK351 := bB_ BK351 hb; replace BK359 := bB_ BK359 hb; replace BK366 := bB_ BK366 hb; replace BK374 := bB_ BK374 hb; replace HB := hB_ (bl_4 HB GE351 GE359 GE366 GE374) hb; (try clear hb); (try clear ho0)) | ((with_reducible refine gd_ 8 ?_); refine bx_ 8 #[.slice none 0 0, .bool false, .int .i64 0] 24 ?_; intro gb384 hg w43 hbox hb; replace HO350 := a_ (Kd.R_below (by refine rq_ ?_; exact HO350.out) hb); replace HO356 := a_ (Kd.R_below (by refine rq_ ?_; exact HO356.out) hb); replace HO362 := a_ (Kd.R_below (by refine rq_ ?_; exact HO362.out) hb); replace HO371 := a_ (Kd.R_below (by refine rq_ ?_; exact HO371.out) hb); replace HO377 := a_ (Kd.R_below (by refine rq_ ?_; exact HO377.out) hb); replace HO380 := a_ (Kd.R_below (by refine rq_ ?_; exact HO380.out) hb); have BK384 := a_ (hbox); have GE384 := a_ (bs_4 hg HB GE351 GE359 GE366 GE374); replace HB := hB_ (bl_4 HB GE351 GE359 GE366 GE374) hb; have NB351_384 := nB_ hg BK351; have NB384_351 := nC_ hg BK351; replace BK351 := bB_ BK351 hb; have NB359_384 := nB_ hg BK359; have NB384_359 := nC_ hg BK359; replace BK359 := bB_ BK359 hb; have NB366_384 := nB_ hg BK366; have NB384_366 := nC_ hg BK366; replace BK366 := bB_ BK366 hb; have NB374_384 := nB_ hg BK374; have NB384_374 := nC_ hg BK374; replace BK374 := bB_ BK374 hb; clear hb hbox hg; obtain ⟨Ao44, co44, eo44⟩ := Kd.R_slice HO380.out; subst eo44; have hnb45 := NB384_351.out; have hnc45 := NB351_384.out; have hnb46 := NB384_359.out; have hnc46 := NB359_384.out; have hnb47 := NB384_366.out; have hnc47 := NB366_384.out; have hnb48 := NB384_374.out; have hnc48 := NB374_384.out; obtain ⟨hcz49_0, hcz49_1, hcz49_2, hfz49_0, hfz49_1, hfz49_2⟩ := c3_ BK384; obtain ⟨hcz50_0, hcz50_1, hcz50_2, hcz50_3, hfz50_0, hfz50_1, hfz50_2, hfz50_3⟩ := c4_ BK351) | ((with_reducible refine gk_ 25 ?_); refine gl_ (some 39) Try.func25 #[.agg #[.int .u64 16, .int .u64 2, .slice Ao16 y348.length co16, .string (⟨#[120]⟩ : ByteArray)]] ?_; (with_reducible refine (snap_Encode.calls k 16 2 _ _ y348 (⟨#[120]⟩ : ByteArray) t385 t386 _ ?side1 ?side2 A5.out).mono ?_); (case side1 => refine (Kd.R_reads' (e := 3) (base := w.heap.size) (ok := fun k_ => (((True ∧ some k_ ≠ (.slice Ao23 t354.length co23 : Value).ownBlock) ∧ some k_ ≠ (.slice Ao37 t369.length co37 : Value).ownBlock) ∧ some k_ ≠ (.slice Ao41 y375.length co41 : Value).ownBlock)) (n := y348.length) (c := co16) ?_).2.2; exact (by refine rq_ ?_; exact (Kd.R_mono (Kd.R_far (p := ⟨gb384, 2, none⟩) (Kd.R_far (p := ⟨gb384, 1, none⟩) (Kd.R_far (p := ⟨gb384, 0, none⟩) (Kd.R_types HO350.out BK384.out (by decide)) (fun _ hk => hk.2) (.slice Ao44 t378.length co44)) (fun _ hk => hk.2) (.bool t381)) (fun _ hk => hk.2) (.int .i64 t382)) (fun _ h_ => h_.1)))); (case side2 => exact (Kd.R_reads' HO350.out).2.1); rintro e w51 ⟨rfl, hb⟩; refine ⟨_, rfl, ?_⟩; replace HO350 := a_ (Kd.R_below (by refine rq_ ?_; exact (Kd.R_mono (Kd.R_far (p := ⟨gb384, 2, none⟩) (Kd.R_far (p := ⟨gb384, 1, none⟩) (Kd.R_far (p := ⟨gb384, 0, none⟩) (Kd.R_types HO350.out BK384.out (by decide)) (fun _ hk => hk.2) (.slice Ao44 t378.length co44)) (fun _ hk => hk.2) (.bool t381)) (fun _ hk => hk.2) (.int .i64 t382)) (fun _ h_ => h_.1))) hb); replace HO356 := a_ (Kd.R_below (by refine rq_ ?_; exact (Kd.R_mono (Kd.R_far (p := ⟨gb384, 2, none⟩) (Kd.R_far (p := ⟨gb384, 1, none⟩) (Kd.R_far (p := ⟨gb384, 0, none⟩) (Kd.R_types HO356.out BK384.out (by decide)) (fun _ hk => hk.2) (.slice Ao44 t378.length co44)) (fun _ hk => hk.2) (.bool t381)) (fun _ hk => hk.2) (.int .i64 t382)) (fun _ h_ => h_.1))) hb); replace HO362 := a_ (Kd.R_below (by refine rq_ ?_; exact (Kd.R_mono (Kd.R_far (p := ⟨gb384, 2, none⟩) (Kd.R_far (p := ⟨gb384, 1, none⟩) (Kd.R_far (p := ⟨gb384, 0, none⟩) (Kd.R_types HO362.out BK384.out (by decide)) (fun _ hk => hk.2) (.slice Ao44 t378.length co44)) (fun _ hk => hk.2) (.bool t381)) (fun _ hk => hk.2) (.int .i64 t382)) (fun _ h_ => h_.1))) hb); replace HO371 := a_ (Kd.R_below (by refine rq_ ?_; exact (Kd.R_mono (Kd.R_far (p := ⟨gb384, 2, none⟩) (Kd.R_far (p := ⟨gb384, 1, none⟩) (Kd.R_far (p := ⟨gb384, 0, none⟩) (Kd.R_types HO371.out BK384.out (by decide)) (fun _ hk => hk.2) (.slice Ao44 t378.length co44)) (fun _ hk => hk.2) (.bool t381)) (fun _ hk => hk.2) (.int .i64 t382)) (fun _ h_ => h_.1))) hb); replace HO377 := a_ (Kd.R_below (by refine rq_ ?_; exact (Kd.R_mono (Kd.R_far (p := ⟨gb384, 2, none⟩) (Kd.R_far (p := ⟨gb384, 1, none⟩) (Kd.R_far (p := ⟨gb384, 0, none⟩) (Kd.R_types HO377.out BK384.out (by decide)) (fun _ hk => hk.2) (.slice Ao44 t378.length co44)) (fun _ hk => hk.2) (.bool t381)) (fun _ hk => hk.2) (.int .i64 t382)) (fun _ h_ => h_.1))) hb); replace HO380 := a_ (Kd.R_below (by refine rq_ ?_; exact (Kd.R_mono (Kd.R_far (p := ⟨gb384, 2, none⟩) (Kd.R_far (p := ⟨gb384, 1, none⟩) (Kd.R_far (p := ⟨gb384, 0, none⟩) (Kd.R_types HO380.out BK384.out (by decide)) (fun _ hk => hk.2) (.slice Ao44 t378.length co44)) (fun _ hk => hk.2) (.bool t381)) (fun _ hk => hk.2) (.int .i64 t382)) (fun _ h_ => h_.1))) hb); replace BK351 := a_ (blk_below (g := gb351) (o := .cells #[.int .u64 16, .int .u64 2, .slice Ao16 y348.length co16, .string (⟨#[120]⟩ : ByteArray)] 48 (0, 0)) (bp_1 BK351 NB351_384) hb); replace BK359 := a_ (blk_below (g := gb359) (o := .cells #[.int .u64 t352, .int .u64 t353, .slice Ao23 t354.length co23, .string t357] 48 (0, 0)) (bp_1 BK359 NB359_384) hb); replace BK366 := a_ (blk_below (g := gb366) (o := .cells #[.slice Ao27 t360.length co27, .bool t363, .int .i64 t364] 24 (0, 0)) (bp_1 BK366 NB366_384) hb); replace BK374 := a_ (blk_below (g := gb374) (o := .cells #[.int .u64 t367, .int .u64 t368, .slice Ao37 t369.length co37, .string t372] 48 (0, 0)) (bp_1 BK374 NB374_384) hb); replace BK384 := a_ (blk_below (g := gb384) (o := .cells #[.slice Ao44 t378.length co44, .bool t381, .int .i64 t382] 24 (0, 0)) (bp_0 BK384) hb); replace HB := hB_ (bl_5 HB GE351 GE359 GE366 GE374 GE384) hb; (try clear hb); obtain ⟨hcz52_0, hcz52_1, hcz52_2, hcz52_3, hfz52_0, hfz52_1, hfz52_2, hfz52_3⟩ := c4_ BK359; obtain ⟨hcz53_0, hcz53_1, hcz53_2, hcz53_3, hfz53_0, hfz53_1, hfz53_2, hfz53_3⟩ := c4_ BK351; obtain ⟨hcz54_0, hcz54_1, hcz54_2, hcz54_3, hfz54_0, hfz54_1, hfz54_2, hfz54_3⟩ := c4_ BK374) | (go_at_call 30; (with_reducible refine (gafferref05_Same.calls k 16 2 _ _ y348 (⟨#[120]⟩ : ByteArray) t367 t368 _ _ t369 t372 true _ ?side1 ?side2 ?side3 ?side4 A10.out).mono ?_); (case side1 => exact cl_ ((Kd.R_reads' HO350.out).2.2)); (case side2 => exact (Kd.R_reads' HO350.out).2.1); (case side3 => exact cl_ ((Kd.R_reads' HO371.out).2.2)); (case side4 => exact (Kd.R_reads' HO371.out).2.1); rintro e w55 ⟨rfl, hb⟩; replace HO350 := a_ (Kd.R_below (by refine rq_ ?_; exact HO350.out) hb); replace HO356 := a_ (Kd.R_below (by refine rq_ ?_; exact HO356.out) hb); replace HO362 := a_ (Kd.R_below (by refine rq_ ?_; exact HO362.out) hb); replace HO371 := a_ (Kd.R_below (by refine rq_ ?_; exact HO371.out) hb); replace HO377 := a_ (Kd.R_below (by refine rq_ ?_; exact HO377.out) hb); replace HO380 := a_ (Kd.R_below (by refine rq_ ?_; exact HO380.out) hb); replace BK351 := bB_ BK351 hb; replace BK359 := bB_ BK359 hb; replace BK366 := bB_ BK366 hb; replace BK374 := bB_ BK374 hb; replace BK384 := bB_ BK384 hb; replace HB := hB_ (bl_5 HB GE351 GE359 GE366 GE374 GE384) hb; (try clear hb)))
 go_ret
 exact ⟨fz_, bl_5 HB GE351 GE359 GE366 GE374 GE384⟩end Go.Proofs.Ytpigjmjbfpipnaa.PE
