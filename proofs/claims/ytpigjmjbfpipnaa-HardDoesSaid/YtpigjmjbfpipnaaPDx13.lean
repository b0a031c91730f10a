-- By a program of this session.
import Derived.Test.YtpigjmjbfpipnaaPDx0
import Derived.Test.YtpigjmjbfpipnaaPDx3
import Derived.Test.YtpigjmjbfpipnaaPDx6
import Derived.Test.YtpigjmjbfpipnaaPDx9
import Derived.Test.YtpigjmjbfpipnaaPDx12
namespace Go.Proofs.Ytpigjmjbfpipnaa.PD
open Go.RowKit YtpigjmjbfpipnaaW.PrintWords YtpigjmjbfpipnaaW.PrintLast YtpigjmjbfpipnaaW.PrintMore Sh Ytpigjmjbfpipnaa.Op
attribute [local go_sem] max2_int min2_int max_two min_two max_three min_three max_four min_four
set_option linter.unusedVariables false
set_option maxHeartbeats 80000000
set_option maxRecDepth 100000
set_option linter.unusedSimpArgs false

def disk_Drop.f (k : Nat) (l0_0 : List (S71)) (a0_1 : Bool) (a0_2 : Int) (a1 : ByteArray) : Option ((List (S71)) × Bool × Int × Int) := (disk_done.f k l0_0 a0_1 a0_2 4 a1 (⟨#[]⟩ : ByteArray) (⟨#[]⟩ : ByteArray) 0).bind fun bt285 => (some (bt285.1, bt285.2.1, bt285.2.2.1, bt285.2.2.2))
theorem disk_Drop.mono : ∀ a0 a1 a2 a3 k, LeO (disk_Drop.f k a0 a1 a2 a3) (disk_Drop.f (k + 1) a0 a1 a2 a3) := by
 intro a0 a1 a2 a3 k
 unfold disk_Drop.f
 repeat' with_reducible first | apply disk_done.mono | apply LeO.refl | apply LeO.none | apply LeO.ite | refine LeO.bind ?_ (fun _ => ?_)
theorem disk_Drop.calls (k : Nat) (A0_0 : Option Addr) (c0_0 : Nat) (l0_0 : List (S71)) (a0_1 : Bool) (a0_2 : Int) (a1 : ByteArray) (r1 : List (S71)) (r2 : Bool) (r3 : Int) (r4 : Int) (w : World) (hr0_0 : Kd.C k71 w A0_0 l0_0.length l0_0) (hc0_0 : l0_0.length ≤ c0_0) (h : disk_Drop.f k l0_0 a0_1 a0_2 a1 = some (r1, r2, r3, r4)) :
  Calls Try.prog 67 #[.agg #[.slice A0_0 l0_0.length c0_0, .bool a0_1, .int .i64 a0_2], .string a1] w fun e w' => ∃ v0_ : Value, e = .returned (.tuple #[.agg #[v0_, .bool r2, .int .i64 r3], .int .i64 r4]) ∧ Kd.R k71 71 w' w.heap.size (fun _ => True) v0_ r1 ∧ Below w.heap.size w w' := by
 have hu24 := Try.underlying24
 have hu115 := Try.underlying115
 have HR0_0 := a_ hr0_0
 have HC0_0 := a_ hc0_0
 clear hr0_0 hc0_0
 have HB := a_ (Below.refl w.heap.size w)
 have H : ((disk_done.f k l0_0 a0_1 a0_2 4 a1 (⟨#[]⟩ : ByteArray) (⟨#[]⟩ : ByteArray) 0).bind fun bt285 => (some (bt285.1, bt285.2.1, bt285.2.2.1, bt285.2.2.2))) = some (r1, r2, r3, r4) := h
 clear h
 obtain ⟨⟨t285, t288, t289, t290⟩, A30, H⟩ := Option.bind_eq_some_iff.mp H
 try dsimp only at H
 have A3 := a_ A30
 clear A30
 simp only [Option.some.injEq, Prod.mk.injEq] at H
 obtain ⟨rfl, rfl, rfl, rfl⟩ := H
 go_enter Try.func67, Try.ntmps67
 go_wp2_with (first | ((with_reducible refine gd_ 2 ?_); refine bx_ 2 #[.slice A0_0 l0_0.length c0_0, .bool a0_1, .int .i64 a0_2] 24 ?_; intro gb283 hg w4 hbox hb; have BK283 := a_ (hbox); have GE283 := a_ (bs_0 hg HB); replace HB := hB_ (bl_ HB) hb; clear hb hbox hg) | ((with_reducible refine gd_ 4 ?_); refine bx_ 4 #[.slice none 0 0, .bool false, .int .i64 0] 24 ?_; intro gb284 hg w5 hbox hb; have BK284 := a_ (hbox); have GE284 := a_ (bs_1 hg HB GE283); replace HB := hB_ (bl_1 HB GE283) hb; have NB283_284 := nB_ hg BK283; have NB284_283 := nC_ hg BK283; replace BK283 := bB_ BK283 hb; clear hb hbox hg; have hnb6 := NB283_284.out; have hnc6 := NB284_283.out; obtain ⟨hcz7_0, hcz7_1, hcz7_2, hfz7_0, hfz7_1, hfz7_2⟩ := c3_ BK283) | ((with_reducible refine gk_ 96 ?_); refine gl_ (some 9) Try.func96 #[.agg #[.slice A0_0 l0_0.length c0_0, .bool a0_1, .int .i64 a0_2], .agg #[.int .u8 4, .string a1, .string (⟨#[]⟩ : ByteArray), .string (⟨#[]⟩ : ByteArray), .int .i64 0]] ?_; (with_reducible refine (disk_done.calls k _ _ l0_0 a0_1 a0_2 4 a1 (⟨#[]⟩ : ByteArray) (⟨#[]⟩ : ByteArray) 0 t285 t288 t289 t290 _ ?side1 ?side2 A3.out).mono ?_); (case side1 => exact cl_ (Kd.C_below HR0_0.out HB.out)); (case side2 => exact HC0_0.out); rintro e w8 ⟨v286, rfl, ho0, hb⟩; refine ⟨_, rfl, ?_⟩; have HO287 := a_ (Kd.R_lower ho0 (below_size (bl_2 HB GE283 GE284))); replace BK283 := bB_ BK283 hb; replace BK284 := bB_ BK284 hb; replace HB := hB_ (bl_2 HB GE283 GE284) hb; (try clear hb); (try clear ho0); obtain ⟨Ao9, co9, eo9⟩ := Kd.R_slice HO287.out; subst eo9; obtain ⟨hcz10_0, hcz10_1, hcz10_2, hfz10_0, hfz10_1, hfz10_2⟩ := c3_ BK284))
 refine bodyPost_ret (results_ct rfl _ _ gb284 24 #[.slice Ao9 t285.length co9, .bool t288, .int .i64 t289] (0, 0) _ rfl (bp_0 BK284) Try.underlying24 rfl (by kernel_rfl)) rfl ?_
 exact ⟨_, fz_, by refine rq_ ?_; exact Kd.R_mono (Kd.R_far (p := ⟨gb284, 2, none⟩) (Kd.R_far (p := ⟨gb284, 1, none⟩) (Kd.R_far (p := ⟨gb284, 0, none⟩) (Kd.R_types HO287.out BK284.out (by decide)) (fun _ hk => hk.2) (.slice Ao9 t285.length co9)) (fun _ hk => hk.2) (.bool t288)) (fun _ hk => hk.2) (.int .i64 t289)) (fun _ hk => trivial), bl_2 HB GE283 GE284⟩

def disk_Add.f (k : Nat) (l0_0 : List (S71)) (a0_1 : Bool) (a0_2 : Int) (a1 : ByteArray) (a2 : ByteArray) : Option ((List (S71)) × Bool × Int × Int) := (disk_done.f k l0_0 a0_1 a0_2 0 a1 (⟨#[]⟩ : ByteArray) a2 0).bind fun bt293 => (some (bt293.1, bt293.2.1, bt293.2.2.1, bt293.2.2.2))
theorem disk_Add.mono : ∀ a0 a1 a2 a3 a4 k, LeO (disk_Add.f k a0 a1 a2 a3 a4) (disk_Add.f (k + 1) a0 a1 a2 a3 a4) := by
 intro a0 a1 a2 a3 a4 k
 unfold disk_Add.f
 repeat' with_reducible first | apply disk_done.mono | apply LeO.refl | apply LeO.none | apply LeO.ite | refine LeO.bind ?_ (fun _ => ?_)
theorem disk_Add.calls (k : Nat) (A0_0 : Option Addr) (c0_0 : Nat) (l0_0 : List (S71)) (a0_1 : Bool) (a0_2 : Int) (a1 : ByteArray) (a2 : ByteArray) (r1 : List (S71)) (r2 : Bool) (r3 : Int) (r4 : Int) (w : World) (hr0_0 : Kd.C k71 w A0_0 l0_0.length l0_0) (hc0_0 : l0_0.length ≤ c0_0) (h : disk_Add.f k l0_0 a0_1 a0_2 a1 a2 = some (r1, r2, r3, r4)) :
  Calls Try.prog 70 #[.agg #[.slice A0_0 l0_0.length c0_0, .bool a0_1, .int .i64 a0_2], .string a1, .string a2] w fun e w' => ∃ v0_ : Value, e = .returned (.tuple #[.agg #[v0_, .bool r2, .int .i64 r3], .int .i64 r4]) ∧ Kd.R k71 71 w' w.heap.size (fun _ => True) v0_ r1 ∧ Below w.heap.size w w' := by
 have hu24 := Try.underlying24
 have hu115 := Try.underlying115
 have HR0_0 := a_ hr0_0
 have HC0_0 := a_ hc0_0
 clear hr0_0 hc0_0
 have HB := a_ (Below.refl w.heap.size w)
 have H : ((disk_done.f k l0_0 a0_1 a0_2 0 a1 (⟨#[]⟩ : ByteArray) a2 0).bind fun bt293 => (some (bt293.1, bt293.2.1, bt293.2.2.1, bt293.2.2.2))) = some (r1, r2, r3, r4) := h
 clear h
 obtain ⟨⟨t293, t296, t297, t298⟩, A40, H⟩ := Option.bind_eq_some_iff.mp H
 try dsimp only at H
 have A4 := a_ A40
 clear A40
 simp only [Option.some.injEq, Prod.mk.injEq] at H
 obtain ⟨rfl, rfl, rfl, rfl⟩ := H
 go_enter Try.func70, Try.ntmps70
 go_wp2_with (first | ((with_reducible refine gd_ 3 ?_); refine bx_ 3 #[.slice A0_0 l0_0.length c0_0, .bool a0_1, .int .i64 a0_2] 24 ?_; intro gb291 hg w5 hbox hb; have BK291 := a_ (hbox); have GE291 := a_ (bs_0 hg HB); replace HB := hB_ (bl_ HB) hb; clear hb hbox hg) | ((with_reducible refine gd_ 6 ?_); refine bx_ 6 #[.slice none 0 0, .bool false, .int .i64 0] 24 ?_; intro gb292 hg w6 hbox hb; have BK292 := a_ (hbox); have GE292 := a_ (bs_1 hg HB GE291); replace HB := hB_ (bl_1 HB GE291) hb; have NB291_292 := nB_ hg BK291; have NB292_291 := nC_ hg BK291; replace BK291 := bB_ BK291 hb; clear hb hbox hg; have hnb7 := NB291_292.out; have hnc7 := NB292_291.out; obtain ⟨hcz8_0, hcz8_1, hcz8_2, hfz8_0, hfz8_1, hfz8_2⟩ := c3_ BK291) | ((with_reducible refine gk_ 96 ?_); refine gl_ (some 12) Try.func96 #[.agg #[.slice A0_0 l0_0.length c0_0, .bool a0_1, .int .i64 a0_2], .agg #[.int .u8 0, .string a1, .string (⟨#[]⟩ : ByteArray), .string a2, .int .i64 0]] ?_; (with_reducible refine (disk_done.calls k _ _ l0_0 a0_1 a0_2 0 a1 (⟨#[]⟩ : ByteArray) a2 0 t293 t296 t297 t298 _ ?side1 ?side2 A4.out).mono ?_); (case side1 => exact cl_ (Kd.C_below HR0_0.out HB.out)); (case side2 => exact HC0_0.out); rintro e w9 ⟨v294, rfl, ho0, hb⟩; refine ⟨_, rfl, ?_⟩; have HO295 := a_ (Kd.R_lower ho0 (below_size (bl_2 HB GE291 GE292))); replace BK291 := bB_ BK291 hb; replace BK292 := bB_ BK292 hb; replace HB := hB_ (bl_2 HB GE291 GE292) hb; (try clear hb); (try clear ho0); obtain ⟨Ao10, co10, eo10⟩ := Kd.R_slice HO295.out; subst eo10; obtain ⟨hcz11_0, hcz11_1, hcz11_2, hfz11_0, hfz11_1, hfz11_2⟩ := c3_ BK292))
 refine bodyPost_ret (results_ct rfl _ _ gb292 24 #[.slice Ao10 t293.length co10, .bool t296, .int .i64 t297] (0, 0) _ rfl (bp_0 BK292) Try.underlying24 rfl (by kernel_rfl)) rfl ?_
 exact ⟨_, fz_, by refine rq_ ?_; exact Kd.R_mono (Kd.R_far (p := ⟨gb292, 2, none⟩) (Kd.R_far (p := ⟨gb292, 1, none⟩) (Kd.R_far (p := ⟨gb292, 0, none⟩) (Kd.R_types HO295.out BK292.out (by decide)) (fun _ hk => hk.2) (.slice Ao10 t293.length co10)) (fun _ hk => hk.2) (.bool t296)) (fun _ hk => hk.2) (.int .i64 t297)) (fun _ hk => trivial), bl_2 HB GE291 GE292⟩

-- NOT PRINTED: function 69 (hard_Put_1)

def disk_Sync.f (k : Nat) (l0_0 : List (S71)) (a0_1 : Bool) (a0_2 : Int) (a1 : ByteArray) : Option ((List (S71)) × Bool × Int × Int) := (disk_done.f k l0_0 a0_1 a0_2 1 a1 (⟨#[]⟩ : ByteArray) (⟨#[]⟩ : ByteArray) 0).bind fun bt303 => (some (bt303.1, bt303.2.1, bt303.2.2.1, bt303.2.2.2))
theorem disk_Sync.mono : ∀ a0 a1 a2 a3 k, LeO (disk_Sync.f k a0 a1 a2 a3) (disk_Sync.f (k + 1) a0 a1 a2 a3) := by
 intro a0 a1 a2 a3 k
 unfold disk_Sync.f
 repeat' with_reducible first | apply disk_done.mono | apply LeO.refl | apply LeO.none | apply LeO.ite | refine LeO.bind ?_ (fun _ => ?_)
theorem disk_Sync.calls (k : Nat) (A0_0 : Option Addr) (c0_0 : Nat) (l0_0 : List (S71)) (a0_1 : Bool) (a0_2 : Int) (a1 : ByteArray) (r1 : List (S71)) (r2 : Bool) (r3 : Int) (r4 : Int) (w : World) (hr0_0 : Kd.C k71 w A0_0 l0_0.length l0_0) (hc0_0 : l0_0.length ≤ c0_0) (h : disk_Sync.f k l0_0 a0_1 a0_2 a1 = some (r1, r2, r3, r4)) :
  Calls Try.prog 72 #[.agg #[.slice A0_0 l0_0.length c0_0, .bool a0_1, .int .i64 a0_2], .string a1] w fun e w' => ∃ v0_ : Value, e = .returned (.tuple #[.agg #[v0_, .bool r2, .int .i64 r3], .int .i64 r4]) ∧ Kd.R k71 71 w' w.heap.size (fun _ => True) v0_ r1 ∧ Below w.heap.size w w' := by
 have hu24 := Try.underlying24
 have hu115 := Try.underlying115
 have HR0_0 := a_ hr0_0
 have HC0_0 := a_ hc0_0
 clear hr0_0 hc0_0
 have HB := a_ (Below.refl w.heap.size w)
 have H : ((disk_done.f k l0_0 a0_1 a0_2 1 a1 (⟨#[]⟩ : ByteArray) (⟨#[]⟩ : ByteArray) 0).bind fun bt303 => (some (bt303.1, bt303.2.1, bt303.2.2.1, bt303.2.2.2))) = some (r1, r2, r3, r4) := h
 clear h
 obtain ⟨⟨t303, t306, t307, t308⟩, A30, H⟩ := Option.bind_eq_some_iff.mp H
 try dsimp only at H
 have A3 := a_ A30
 clear A30
 simp only [Option.some.injEq, Prod.mk.injEq] at H
 obtain ⟨rfl, rfl, rfl, rfl⟩ := H
 go_enter Try.func72, Try.ntmps72
 go_wp2_with (first | ((with_reducible refine gd_ 2 ?_); refine bx_ 2 #[.slice A0_0 l0_0.length c0_0, .bool a0_1, .int .i64 a0_2] 24 ?_; intro gb301 hg w4 hbox hb; have BK301 := a_ (hbox); have GE301 := a_ (bs_0 hg HB); replace HB := hB_ (bl_ HB) hb; clear hb hbox hg) | ((with_reducible refine gd_ 4 ?_); refine bx_ 4 #[.slice none 0 0, .bool false, .int .i64 0] 24 ?_; intro gb302 hg w5 hbox hb; have BK302 := a_ (hbox); have GE302 := a_ (bs_1 hg HB GE301); replace HB := hB_ (bl_1 HB GE301) hb; have NB301_302 := nB_ hg BK301; have NB302_301 := nC_ hg BK301; replace BK301 := bB_ BK301 hb; clear hb hbox hg; have hnb6 := NB301_302.out; have hnc6 := NB302_301.out; obtain ⟨hcz7_0, hcz7_1, hcz7_2, hfz7_0, hfz7_1, hfz7_2⟩ := c3_ BK301) | ((with_reducible refine gk_ 96 ?_); refine gl_ (some 9) Try.func96 #[.agg #[.slice A0_0 l0_0.length c0_0, .bool a0_1, .int .i64 a0_2], .agg #[.int .u8 1, .string a1, .string (⟨#[]⟩ : ByteArray), .string (⟨#[]⟩ : ByteArray), .int .i64 0]] ?_; (with_reducible refine (disk_done.calls k _ _ l0_0 a0_1 a0_2 1 a1 (⟨#[]⟩ : ByteArray) (⟨#[]⟩ : ByteArray) 0 t303 t306 t307 t308 _ ?side1 ?side2 A3.out).mono ?_); (case side1 => exact cl_ (Kd.C_below HR0_0.out HB.out)); (case side2 => exact HC0_0.out); rintro e w8 ⟨v304, rfl, ho0, hb⟩; refine ⟨_, rfl, ?_⟩; have HO305 := a_ (Kd.R_lower ho0 (below_size (bl_2 HB GE301 GE302))); replace BK301 := bB_ BK301 hb; replace BK302 := bB_ BK302 hb; replace HB := hB_ (bl_2 HB GE301 GE302) hb; (try clear hb); (try clear ho0); obtain ⟨Ao9, co9, eo9⟩ := Kd.R_slice HO305.out; subst eo9; obtain ⟨hcz10_0, hcz10_1, hcz10_2, hfz10_0, hfz10_1, hfz10_2⟩ := c3_ BK302))
 refine bodyPost_ret (results_ct rfl _ _ gb302 24 #[.slice Ao9 t303.length co9, .bool t306, .int .i64 t307] (0, 0) _ rfl (bp_0 BK302) Try.underlying24 rfl (by kernel_rfl)) rfl ?_
 exact ⟨_, fz_, by refine rq_ ?_; exact Kd.R_mono (Kd.R_far (p := ⟨gb302, 2, none⟩) (Kd.R_far (p := ⟨gb302, 1, none⟩) (Kd.R_far (p := ⟨gb302, 0, none⟩) (Kd.R_types HO305.out BK302.out (by decide)) (fun _ hk => hk.2) (.slice Ao9 t303.length co9)) (fun _ hk => hk.2) (.bool t306)) (fun _ hk => hk.2) (.int .i64 t307)) (fun _ hk => trivial), bl_2 HB GE301 GE302⟩

-- NOT PRINTED: function 71 (hard_Put_2)

def disk_Swap.f (k : Nat) (l0_0 : List (S71)) (a0_1 : Bool) (a0_2 : Int) (a1 : ByteArray) (a2 : ByteArray) : Option ((List (S71)) × Bool × Int × Int) := (disk_done.f k l0_0 a0_1 a0_2 3 a1 a2 (⟨#[]⟩ : ByteArray) 0).bind fun bt313 => (some (bt313.1, bt313.2.1, bt313.2.2.1, bt313.2.2.2))
theorem disk_Swap.mono : ∀ a0 a1 a2 a3 a4 k, LeO (disk_Swap.f k a0 a1 a2 a3 a4) (disk_Swap.f (k + 1) a0 a1 a2 a3 a4) := by
 intro a0 a1 a2 a3 a4 k
 unfold disk_Swap.f
 repeat' with_reducible first | apply disk_done.mono | apply LeO.refl | apply LeO.none | apply LeO.ite | refine LeO.bind ?_ (fun _ => ?_)
theorem disk_Swap.calls (k : Nat) (A0_0 : Option Addr) (c0_0 : Nat) (l0_0 : List (S71)) (a0_1 : Bool) (a0_2 : Int) (a1 : ByteArray) (a2 : ByteArray) (r1 : List (S71)) (r2 : Bool) (r3 : Int) (r4 : Int) (w : World) (hr0_0 : Kd.C k71 w A0_0 l0_0.length l0_0) (hc0_0 : l0_0.length ≤ c0_0) (h : disk_Swap.f k l0_0 a0_1 a0_2 a1 a2 = some (r1, r2, r3, r4)) :
  Calls Try.prog 74 #[.agg #[.slice A0_0 l0_0.length c0_0, .bool a0_1, .int .i64 a0_2], .string a1, .string a2] w fun e w' => ∃ v0_ : Value, e = .returned (.tuple #[.agg #[v0_, .bool r2, .int .i64 r3], .int .i64 r4]) ∧ Kd.R k71 71 w' w.heap.size (fun _ => True) v0_ r1 ∧ Below w.heap.size w w' := by
 have hu24 := Try.underlying24
 have hu115 := Try.underlying115
 have HR0_0 := a_ hr0_0
 have HC0_0 := a_ hc0_0
 clear hr0_0 hc0_0
 have HB := a_ (Below.refl w.heap.size w)
 have H : ((disk_done.f k l0_0 a0_1 a0_2 3 a1 a2 (⟨#[]⟩ : ByteArray) 0).bind fun bt313 => (some (bt313.1, bt313.2.1, bt313.2.2.1, bt313.2.2.2))) = some (r1, r2, r3, r4) := h
 clear h
 obtain ⟨⟨t313, t316, t317, t318⟩, A40, H⟩ := Option.bind_eq_some_iff.mp H
 try dsimp only at H
 have A4 := a_ A40
 clear A40
 simp only [Option.some.injEq, Prod.mk.injEq] at H
 obtain ⟨rfl, rfl, rfl, rfl⟩ := H
 go_enter Try.func74, Try.ntmps74
 go_wp2_with (first | ((with_reducible refine gd_ 3 ?_); refine bx_ 3 #[.slice A0_0 l0_0.length c0_0, .bool a0_1, .int .i64 a0_2] 24 ?_; intro gb311 hg w5 hbox hb; have BK311 := a_ (hbox); have GE311 := a_ (bs_0 hg HB); replace HB := hB_ (bl_ HB) hb; clear hb hbox hg) | ((with_reducible refine gd_ 6 ?_); refine bx_ 6 #[.slice none 0 0, .bool false, .int .i64 0] 24 ?_; intro gb312 hg w6 hbox hb; have BK312 := a_ (hbox); have GE312 := a_ (bs_1 hg HB GE311); replace HB := hB_ (bl_1 HB GE311) hb; have NB311_312 := nB_ hg BK311; have NB312_311 := nC_ hg BK311; replace BK311 := bB_ BK311 hb; clear hb hbox hg; have hnb7 := NB311_312.out; have hnc7 := NB312_311.out; obtain ⟨hcz8_0, hcz8_1, hcz8_2, hfz8_0, hfz8_1, hfz8_2⟩ := c3_ BK311) | ((with_reducible refine gk_ 96 ?_); refine gl_ (some 12) Try.func96 #[.agg #[.slice A0_0 l0_0.length c0_0, .bool a0_1, .int .i64 a0_2], .agg #[.int .u8 3, .string a1, .string a2, .string (⟨#[]⟩ : ByteArray), .int .i64 0]] ?_; (with_reducible refine (disk_done.calls k _ _ l0_0 a0_1 a0_2 3 a1 a2 (⟨#[]⟩ : ByteArray) 0 t313 t316 t317 t318 _ ?side1 ?side2 A4.out).mono ?_); (case side1 => exact cl_ (Kd.C_below HR0_0.out HB.out)); (case side2 => exact HC0_0.out); rintro e w9 ⟨v314, rfl, ho0, hb⟩; refine ⟨_, rfl, ?_⟩; have HO315 := a_ (Kd.R_lower ho0 (below_size (bl_2 HB GE311 GE312))); replace BK311 := bB_ BK311 hb; replace BK312 := bB_ BK312 hb; replace HB := hB_ (bl_2 HB GE311 GE312) hb; (try clear hb); (try clear ho0); obtain ⟨Ao10, co10, eo10⟩ := Kd.R_slice HO315.out; subst eo10; obtain ⟨hcz11_0, hcz11_1, hcz11_2, hfz11_0, hfz11_1, hfz11_2⟩ := c3_ BK312))
 refine bodyPost_ret (results_ct rfl _ _ gb312 24 #[.slice Ao10 t313.length co10, .bool t316, .int .i64 t317] (0, 0) _ rfl (bp_0 BK312) Try.underlying24 rfl (by kernel_rfl)) rfl ?_
 exact ⟨_, fz_, by refine rq_ ?_; exact Kd.R_mono (Kd.R_far (p := ⟨gb312, 2, none⟩) (Kd.R_far (p := ⟨gb312, 1, none⟩) (Kd.R_far (p := ⟨gb312, 0, none⟩) (Kd.R_types HO315.out BK312.out (by decide)) (fun _ hk => hk.2) (.slice Ao10 t313.length co10)) (fun _ hk => hk.2) (.bool t316)) (fun _ hk => hk.2) (.int .i64 t317)) (fun _ hk => trivial), bl_2 HB GE311 GE312⟩

-- NOT PRINTED: function 73 (hard_Put_3)

-- NOT PRINTED: function 68 (hard_all)

theorem c1_ {w : World} {g : Nat} {t : TypeId} {a0 : Value} (h : Aside0 (w.heap[g]? = some (.cells #[a0] t (0, 0)))) : w.cell? ⟨g, 0, none⟩ = some a0 ∧ w.frozen? ⟨g, 0, none⟩ = false := ⟨(blk_cell h.out 0).trans rfl, blk_frozen h.out 0⟩
theorem hard_Put_1.calls (k gx gy : Nat) (A0_0 : Option Addr) (c0_0 : Nat) (l0_0 : List (S71)) (a0_1 : Bool) (a0_2 : Int) (sx sy : ByteArray) (r1 : List (S71)) (r2 : Bool) (r3 : Int) (r4 : Int) (w : World) (hx : w.heap[gx]? = some (.cells #[.string sx] 9 (0, 0))) (hy : w.heap[gy]? = some (.cells #[.string sy] 9 (0, 0))) (hr0_0 : Kd.C k71 w A0_0 l0_0.length l0_0) (hc0_0 : l0_0.length ≤ c0_0) (h : disk_Add.f k l0_0 a0_1 a0_2 sx sy = some (r1, r2, r3, r4)) :
  Calls Try.prog 69 #[.agg #[.slice A0_0 l0_0.length c0_0, .bool a0_1, .int .i64 a0_2], .pointer (some ⟨gx, 0, none⟩), .pointer (some ⟨gy, 0, none⟩)] w fun e w' => ∃ v0_ : Value, e = .returned (.tuple #[.agg #[v0_, .bool r2, .int .i64 r3], .int .i64 r4]) ∧ Kd.R k71 71 w' w.heap.size (fun _ => True) v0_ r1 ∧ Below w.heap.size w w' := by
 have hu24 := Try.underlying24
 have HR0_0 := a_ hr0_0
 have HC0_0 := a_ hc0_0
 clear hr0_0 hc0_0
 have BX := a_ hx
 clear hx
 have BY := a_ hy
 clear hy
 have HB := a_ (Below.refl w.heap.size w)
 have A4 := a_ h
 clear h
 go_enter Try.func69, Try.ntmps69
 go_wp2_with (first | ((with_reducible refine gd_ 3 ?_); refine bx_ 3 #[.slice A0_0 l0_0.length c0_0, .bool a0_1, .int .i64 a0_2] 24 ?_; intro ga hg w_ hbox hb; have BKa := a_ (hbox); have GEa := a_ (bs_0 hg HB ); replace BX := bB_ BX hb; replace BY := bB_ BY hb; replace HB := hB_ (bl_ HB) hb; clear hb hbox hg) | ((with_reducible refine gd_ 4 ?_); refine bx_ 4 #[.slice none 0 0, .bool false, .int .i64 0] 24 ?_; intro gb hg w_ hbox hb; have BKb := a_ (hbox); have GEb := a_ (bs_1 hg HB GEa); have NBa_b := nB_ hg BKa; have NBb_a := nC_ hg BKa; replace BX := bB_ BX hb; replace BY := bB_ BY hb; replace BKa := bB_ BKa hb; replace HB := hB_ (bl_1 HB GEa) hb; clear hb hbox hg; have hne := NBa_b.out; have hne2 := NBb_a.out; obtain ⟨hcza_0, hcza_1, hcza_2, hfza_0, hfza_1, hfza_2⟩ := c3_ BKa; obtain ⟨hczx, hfzx⟩ := c1_ BX; obtain ⟨hczy, hfzy⟩ := c1_ BY) | ((with_reducible refine gk_ 70 ?_); refine gl_ (some 9) Try.func70 #[.agg #[.slice A0_0 l0_0.length c0_0, .bool a0_1, .int .i64 a0_2], .string sx, .string sy] ?_; (with_reducible refine (disk_Add.calls k _ _ l0_0 a0_1 a0_2 sx sy r1 r2 r3 r4 _ ?side1 ?side2 A4.out).mono ?_); (case side1 => exact cl_ (Kd.C_below HR0_0.out HB.out)); (case side2 => exact HC0_0.out); rintro e w9 ⟨v9, rfl, ho0, hb⟩; refine ⟨_, rfl, ?_⟩; have HO := a_ (Kd.R_lower ho0 (below_size (bl_2 HB GEa GEb))); replace BKb := bB_ BKb hb; replace HB := hB_ (bl_2 HB GEa GEb) hb; clear hb ho0; obtain ⟨Ao, co, eo⟩ := Kd.R_slice HO.out; subst eo; obtain ⟨hczb_0, hczb_1, hczb_2, hfzb_0, hfzb_1, hfzb_2⟩ := c3_ BKb))
 refine bodyPost_ret (results_ct rfl _ _ gb 24 #[.slice Ao r1.length co, .bool r2, .int .i64 r3] (0, 0) _ rfl (bp_0 BKb) Try.underlying24 rfl (by kernel_rfl)) rfl ?_
 exact ⟨_, fz_, by refine rq_ ?_; exact Kd.R_mono (Kd.R_far (p := ⟨gb, 2, none⟩) (Kd.R_far (p := ⟨gb, 1, none⟩) (Kd.R_far (p := ⟨gb, 0, none⟩) (Kd.R_types HO.out BKb.out (by decide)) (fun _ hk => hk.2) _) (fun _ hk => hk.2) _) (fun _ hk => hk.2) _) (fun _ hk => trivial), bl_2 HB GEa GEb⟩

theorem hard_Put_2.calls (k gx : Nat) (A0_0 : Option Addr) (c0_0 : Nat) (l0_0 : List (S71)) (a0_1 : Bool) (a0_2 : Int) (sx : ByteArray) (r1 : List (S71)) (r2 : Bool) (r3 : Int) (r4 : Int) (w : World) (hx : w.heap[gx]? = some (.cells #[.string sx] 9 (0, 0))) (hr0_0 : Kd.C k71 w A0_0 l0_0.length l0_0) (hc0_0 : l0_0.length ≤ c0_0) (h : disk_Sync.f k l0_0 a0_1 a0_2 sx = some (r1, r2, r3, r4)) :
  Calls Try.prog 71 #[.agg #[.slice A0_0 l0_0.length c0_0, .bool a0_1, .int .i64 a0_2], .pointer (some ⟨gx, 0, none⟩)] w fun e w' => ∃ v0_ : Value, e = .returned (.tuple #[.agg #[v0_, .bool r2, .int .i64 r3], .int .i64 r4]) ∧ Kd.R k71 71 w' w.heap.size (fun _ => True) v0_ r1 ∧ Below w.heap.size w w' := by
 have hu24 := Try.underlying24
 have HR0_0 := a_ hr0_0
 have HC0_0 := a_ hc0_0
 clear hr0_0 hc0_0
 have BX := a_ hx
 clear hx
 have HB := a_ (Below.refl w.heap.size w)
 have A4 := a_ h
 clear h
 go_enter Try.func71, Try.ntmps71
 go_wp2_with (first | ((with_reducible refine gd_ 2 ?_); refine bx_ 2 #[.slice A0_0 l0_0.length c0_0, .bool a0_1, .int .i64 a0_2] 24 ?_; intro ga hg w_ hbox hb; have BKa := a_ (hbox); have GEa := a_ (bs_0 hg HB ); replace BX := bB_ BX hb; replace HB := hB_ (bl_ HB) hb; clear hb hbox hg) | ((with_reducible refine gd_ 3 ?_); refine bx_ 3 #[.slice none 0 0, .bool false, .int .i64 0] 24 ?_; intro gb hg w_ hbox hb; have BKb := a_ (hbox); have GEb := a_ (bs_1 hg HB GEa); have NBa_b := nB_ hg BKa; have NBb_a := nC_ hg BKa; replace BX := bB_ BX hb; replace BKa := bB_ BKa hb; replace HB := hB_ (bl_1 HB GEa) hb; clear hb hbox hg; have hne := NBa_b.out; have hne2 := NBb_a.out; obtain ⟨hcza_0, hcza_1, hcza_2, hfza_0, hfza_1, hfza_2⟩ := c3_ BKa; obtain ⟨hczx, hfzx⟩ := c1_ BX) | ((with_reducible refine gk_ 72 ?_); refine gl_ (some 7) Try.func72 #[.agg #[.slice A0_0 l0_0.length c0_0, .bool a0_1, .int .i64 a0_2], .string sx] ?_; (with_reducible refine (disk_Sync.calls k _ _ l0_0 a0_1 a0_2 sx r1 r2 r3 r4 _ ?side1 ?side2 A4.out).mono ?_); (case side1 => exact cl_ (Kd.C_below HR0_0.out HB.out)); (case side2 => exact HC0_0.out); rintro e w9 ⟨v9, rfl, ho0, hb⟩; refine ⟨_, rfl, ?_⟩; have HO := a_ (Kd.R_lower ho0 (below_size (bl_2 HB GEa GEb))); replace BKb := bB_ BKb hb; replace HB := hB_ (bl_2 HB GEa GEb) hb; clear hb ho0; obtain ⟨Ao, co, eo⟩ := Kd.R_slice HO.out; subst eo; obtain ⟨hczb_0, hczb_1, hczb_2, hfzb_0, hfzb_1, hfzb_2⟩ := c3_ BKb))
 refine bodyPost_ret (results_ct rfl _ _ gb 24 #[.slice Ao r1.length co, .bool r2, .int .i64 r3] (0, 0) _ rfl (bp_0 BKb) Try.underlying24 rfl (by kernel_rfl)) rfl ?_
 exact ⟨_, fz_, by refine rq_ ?_; exact Kd.R_mono (Kd.R_far (p := ⟨gb, 2, none⟩) (Kd.R_far (p := ⟨gb, 1, none⟩) (Kd.R_far (p := ⟨gb, 0, none⟩) (Kd.R_types HO.out BKb.out (by decide)) (fun _ hk => hk.2) _) (fun _ hk => hk.2) _) (fun _ hk => hk.2) _) (fun _ hk => trivial), bl_2 HB GEa GEb⟩

theorem hard_Put_3.calls (k gx gy : Nat) (A0_0 : Option Addr) (c0_0 : Nat) (l0_0 : List (S71)) (a0_1 : Bool) (a0_2 : Int) (sx sy : ByteArray) (r1 : List (S71)) (r2 : Bool) (r3 : Int) (r4 : Int) (w : World) (hx : w.heap[gx]? = some (.cells #[.string sx] 9 (0, 0))) (hy : w.heap[gy]? = some (.cells #[.string sy] 9 (0, 0))) (hr0_0 : Kd.C k71 w A0_0 l0_0.length l0_0) (hc0_0 : l0_0.length ≤ c0_0) (h : disk_Swap.f k l0_0 a0_1 a0_2 sx sy = some (r1, r2, r3, r4)) :
  Calls Try.prog 73 #[.agg #[.slice A0_0 l0_0.length c0_0, .bool a0_1, .int .i64 a0_2], .pointer (some ⟨gx, 0, none⟩), .pointer (some ⟨gy, 0, none⟩)] w fun e w' => ∃ v0_ : Value, e = .returned (.tuple #[.agg #[v0_, .bool r2, .int .i64 r3], .int .i64 r4]) ∧ Kd.R k71 71 w' w.heap.size (fun _ => True) v0_ r1 ∧ Below w.heap.size w w' := by
 have hu24 := Try.underlying24
 have HR0_0 := a_ hr0_0
 have HC0_0 := a_ hc0_0
 clear hr0_0 hc0_0
 have BX := a_ hx
 clear hx
 have BY := a_ hy
 clear hy
 have HB := a_ (Below.refl w.heap.size w)
 have A4 := a_ h
 clear h
 go_enter Try.func73, Try.ntmps73
 go_wp2_with (first | ((with_reducible refine gd_ 3 ?_); refine bx_ 3 #[.slice A0_0 l0_0.length c0_0, .bool a0_1, .int .i64 a0_2] 24 ?_; intro ga hg w_ hbox hb; have BKa := a_ (hbox); have GEa := a_ (bs_0 hg HB ); replace BX := bB_ BX hb; replace BY := bB_ BY hb; replace HB := hB_ (bl_ HB) hb; clear hb hbox hg) | ((with_reducible refine gd_ 4 ?_); refine bx_ 4 #[.slice none 0 0, .bool false, .int .i64 0] 24 ?_; intro gb hg w_ hbox hb; have BKb := a_ (hbox); have GEb := a_ (bs_1 hg HB GEa); have NBa_b := nB_ hg BKa; have NBb_a := nC_ hg BKa; replace BX := bB_ BX hb; replace BY := bB_ BY hb; replace BKa := bB_ BKa hb; replace HB := hB_ (bl_1 HB GEa) hb; clear hb hbox hg; have hne := NBa_b.out; have hne2 := NBb_a.out; obtain ⟨hcza_0, hcza_1, hcza_2, hfza_0, hfza_1, hfza_2⟩ := c3_ BKa; obtain ⟨hczx, hfzx⟩ := c1_ BX; obtain ⟨hczy, hfzy⟩ := c1_ BY) | ((with_reducible refine gk_ 74 ?_); refine gl_ (some 9) Try.func74 #[.agg #[.slice A0_0 l0_0.length c0_0, .bool a0_1, .int .i64 a0_2], .string sx, .string sy] ?_; (with_reducible refine (disk_Swap.calls k _ _ l0_0 a0_1 a0_2 sx sy r1 r2 r3 r4 _ ?side1 ?side2 A4.out).mono ?_); (case side1 => exact cl_ (Kd.C_below HR0_0.out HB.out)); (case side2 => exact HC0_0.out); rintro e w9 ⟨v9, rfl, ho0, hb⟩; refine ⟨_, rfl, ?_⟩; have HO := a_ (Kd.R_lower ho0 (below_size (bl_2 HB GEa GEb))); replace BKb := bB_ BKb hb; replace HB := hB_ (bl_2 HB GEa GEb) hb; clear hb ho0; obtain ⟨Ao, co, eo⟩ := Kd.R_slice HO.out; subst eo; obtain ⟨hczb_0, hczb_1, hczb_2, hfzb_0, hfzb_1, hfzb_2⟩ := c3_ BKb))
 refine bodyPost_ret (results_ct rfl _ _ gb 24 #[.slice Ao r1.length co, .bool r2, .int .i64 r3] (0, 0) _ rfl (bp_0 BKb) Try.underlying24 rfl (by kernel_rfl)) rfl ?_
 exact ⟨_, fz_, by refine rq_ ?_; exact Kd.R_mono (Kd.R_far (p := ⟨gb, 2, none⟩) (Kd.R_far (p := ⟨gb, 1, none⟩) (Kd.R_far (p := ⟨gb, 0, none⟩) (Kd.R_types HO.out BKb.out (by decide)) (fun _ hk => hk.2) _) (fun _ hk => hk.2) _) (fun _ hk => hk.2) _) (fun _ hk => trivial), bl_2 HB GEa GEb⟩

def hard_all.s2 (k : Nat) (tm nm : ByteArray) (l : List (S71)) (b : Bool) (i : Int) : Option ((List (S71)) × Bool × Int × Int) := (disk_Swap.f k l b i tm nm).bind fun x => if x.2.2.2 = 0 then some (x.1, x.2.1, x.2.2.1, 0) else some (x.1, x.2.1, x.2.2.1, x.2.2.2)
def hard_all.s1 (k : Nat) (tm nm : ByteArray) (l : List (S71)) (b : Bool) (i : Int) : Option ((List (S71)) × Bool × Int × Int) := (disk_Sync.f k l b i tm).bind fun x => if x.2.2.2 = 0 then hard_all.s2 k tm nm x.1 x.2.1 x.2.2.1 else some (x.1, x.2.1, x.2.2.1, x.2.2.2)
def hard_all.f (k : Nat) (tm nm dt : ByteArray) (l : List (S71)) (b : Bool) (i : Int) : Option ((List (S71)) × Bool × Int × Int) := (disk_Add.f k l b i tm dt).bind fun x => if x.2.2.2 = 0 then hard_all.s1 k tm nm x.1 x.2.1 x.2.2.1 else some (x.1, x.2.1, x.2.2.1, x.2.2.2)
theorem hard_all.mono : ∀ a0 a1 a2 a3 a4 a5 k, LeO (hard_all.f k a0 a1 a2 a3 a4 a5) (hard_all.f (k + 1) a0 a1 a2 a3 a4 a5) := fun a0 a1 a2 a3 a4 a5 k => LeO.bind (disk_Add.mono _ _ _ _ _ k) (fun _ => LeO.ite (LeO.bind (disk_Sync.mono _ _ _ _ k) (fun _ => LeO.ite (LeO.bind (disk_Swap.mono _ _ _ _ _ k) (fun _ => LeO.refl _)) (LeO.refl _))) (LeO.refl _))
theorem hard_all.calls (k gr gt gd gn : Nat) (A0_0 : Option Addr) (c0_0 : Nat) (l0_0 : List (S71)) (a0_1 : Bool) (a0_2 : Int) (tm nm dt : ByteArray) (r1 : List (S71)) (r2 : Bool) (r3 : Int) (r4 : Int) (w : World) (hrow : w.heap[gr]? = some (.cells #[.func (.func 69) #[] #[.pointer (some ⟨gt, 0, none⟩), .pointer (some ⟨gd, 0, none⟩)], .func (.func 71) #[] #[.pointer (some ⟨gt, 0, none⟩)], .func (.func 73) #[] #[.pointer (some ⟨gt, 0, none⟩), .pointer (some ⟨gn, 0, none⟩)]] 95 (0, 0))) (ht : w.heap[gt]? = some (.cells #[.string tm] 9 (0, 0))) (hd : w.heap[gd]? = some (.cells #[.string dt] 9 (0, 0))) (hn : w.heap[gn]? = some (.cells #[.string nm] 9 (0, 0))) (hr0_0 : Kd.C k71 w A0_0 l0_0.length l0_0) (hc0_0 : l0_0.length ≤ c0_0) (h : hard_all.f k tm nm dt l0_0 a0_1 a0_2 = some (r1, r2, r3, r4)) :
  Calls Try.prog 68 #[.agg #[.slice A0_0 l0_0.length c0_0, .bool a0_1, .int .i64 a0_2], .slice (some ⟨gr, 0, none⟩) 3 3] w fun e w' => ∃ v0_ : Value, e = .returned (.tuple #[.agg #[v0_, .bool r2, .int .i64 r3], .int .i64 r4]) ∧ Kd.R k71 71 w' w.heap.size (fun _ => True) v0_ r1 ∧ Below w.heap.size w w' := by
 have hu24 := Try.underlying24
 have HR0_0 := a_ hr0_0
 have HC0_0 := a_ hc0_0
 clear hr0_0 hc0_0
 have BR := a_ hrow
 have BT := a_ ht
 have BD := a_ hd
 have BN := a_ hn
 clear hrow ht hd hn
 have HB := a_ (Below.refl w.heap.size w)
 have H' := a_ h
 clear h
 go_enter Try.func68, Try.ntmps68
 go_wp2_with (first | ((with_reducible refine gd_ 2 ?_); refine bx_ 2 #[.slice A0_0 l0_0.length c0_0, .bool a0_1, .int .i64 a0_2] 24 ?_; intro ga hg w_ hbox hb; have BKa := a_ (hbox); have GEa := a_ (bs_0 hg HB ); have NBr_a := nB_ hg BR; have NBt_a := nB_ hg BT; have NBd_a := nB_ hg BD; have NBn_a := nB_ hg BN; replace BR := bB_ BR hb; replace BT := bB_ BT hb; replace BD := bB_ BD hb; replace BN := bB_ BN hb; replace HB := hB_ (bl_ HB) hb; clear hb hbox hg) | ((with_reducible refine gd_ 4 ?_); refine bx_ 4 #[.slice none 0 0, .bool false, .int .i64 0] 24 ?_; intro gb hg w_ hbox hb; have BKb := a_ (hbox); have GEb := a_ (bs_1 hg HB GEa); have NBa_b := nB_ hg BKa; have NBb_a := nC_ hg BKa; replace BR := bB_ BR hb; replace BT := bB_ BT hb; replace BD := bB_ BD hb; replace BN := bB_ BN hb; replace BKa := bB_ BKa hb; replace HB := hB_ (bl_1 HB GEa) hb; clear hb hbox hg))
 go_loopg [12] 4 (fun kq v12 w' => Aside0 (w'.heap[gr]? = some (.cells #[.func (.func 69) #[] #[.pointer (some ⟨gt, 0, none⟩), .pointer (some ⟨gd, 0, none⟩)], .func (.func 71) #[] #[.pointer (some ⟨gt, 0, none⟩)], .func (.func 73) #[] #[.pointer (some ⟨gt, 0, none⟩), .pointer (some ⟨gn, 0, none⟩)]] 95 (0, 0))) ∧ Aside0 (w'.heap[gt]? = some (.cells #[.string tm] 9 (0, 0))) ∧ Aside0 (w'.heap[gd]? = some (.cells #[.string dt] 9 (0, 0))) ∧ Aside0 (w'.heap[gn]? = some (.cells #[.string nm] 9 (0, 0))) ∧ Aside0 (w'.heap[gb]? = some (.cells #[.slice none 0 0, .bool false, .int .i64 0] 24 (0, 0))) ∧ Aside0 (Below w.heap.size w w') ∧ ((kq = 4 ∧ v12 = .int .i64 0 ∧ Aside0 (w'.heap[ga]? = some (.cells #[.slice A0_0 l0_0.length c0_0, .bool a0_1, .int .i64 a0_2] 24 (0, 0)))) ∨ (kq = 3 ∧ v12 = .int .i64 1 ∧ ∃ (v_ : Value) (l_ : List (S71)) (b_ : Bool) (i_ : Int), Aside0 (w'.heap[ga]? = some (.cells #[v_, .bool b_, .int .i64 i_] 24 (0, 0))) ∧ Aside0 (Kd.R k71 71 w' w.heap.size (fun _ => True) v_ l_) ∧ Aside0 (hard_all.s1 k tm nm l_ b_ i_ = some (r1, r2, r3, r4))) ∨ (kq = 2 ∧ v12 = .int .i64 2 ∧ ∃ (v_ : Value) (l_ : List (S71)) (b_ : Bool) (i_ : Int), Aside0 (w'.heap[ga]? = some (.cells #[v_, .bool b_, .int .i64 i_] 24 (0, 0))) ∧ Aside0 (Kd.R k71 71 w' w.heap.size (fun _ => True) v_ l_) ∧ Aside0 (hard_all.s2 k tm nm l_ b_ i_ = some (r1, r2, r3, r4))) ∨ (kq = 1 ∧ v12 = .int .i64 3 ∧ ∃ (v_ : Value) (l_ : List (S71)) (b_ : Bool) (i_ : Int), Aside0 (w'.heap[ga]? = some (.cells #[v_, .bool b_, .int .i64 i_] 24 (0, 0))) ∧ Aside0 (Kd.R k71 71 w' w.heap.size (fun _ => True) v_ l_) ∧ Aside0 (some (l_, b_, i_, 0) = some (r1, r2, r3, r4)))))
 case atStart => exact ⟨⟨bk_ BR⟩, ⟨bk_ BT⟩, ⟨bk_ BD⟩, ⟨bk_ BN⟩, ⟨bk_ BKb⟩, ⟨bl_2 HB GEa GEb⟩, .inl ⟨rfl, by first | rfl | (simp; done), ⟨bk_ BKa⟩⟩⟩
 case round =>
  clear HB BR BT BD BN BKa BKb
  obtain ⟨BR, BT, BD, BN, BKb, HB, hst⟩ := hrel
  rcases hst with ⟨rfl, rfl, BKa⟩ | ⟨rfl, rfl, v_, l_, b_, i_, BKa, HO, H1⟩ | ⟨rfl, rfl, v_, l_, b_, i_, BKa, HO, H1⟩ | ⟨rfl, rfl, v_, l_, b_, i_, BKa, HO, H1⟩
  · obtain ⟨⟨x1, x2, x3, x4⟩, A10, H⟩ := Option.bind_eq_some_iff.mp (show (disk_Add.f k l0_0 a0_1 a0_2 tm dt).bind _ = some _ from H'.out)
    have A1 := a_ A10
    clear A10 H'
    try dsimp only at H
    obtain ⟨hca_0, hca_1, hca_2, hfa_0, hfa_1, hfa_2⟩ := c3_ BKa
    have hcr := (blk_cell BR.out 0).trans rfl
    by_cases c4 : x4 = 0
    ·rw [if_pos c4] at H
     have c4b0 : (x4 == 0) = true := beq_iff_eq.mpr c4
     have c4b1 : (x4 != 0) = false := bne_eq_false_iff_eq.mpr c4
     clear c4
     have H2 := a_ H
     clear H
     go_wp2_with (first | (go_at_call 69; (with_reducible refine (hard_Put_1.calls k gt gd A0_0 c0_0 l0_0 a0_1 a0_2 tm dt x1 x2 x3 x4 _ ?bx ?bz ?s1 ?s2 A1.out).mono ?_); (case bx => exact bk_ BT); (case bz => exact bk_ BD); (case s1 => exact cl_ (Kd.C_below HR0_0.out HB.out)); (case s2 => exact HC0_0.out); rintro e w9 ⟨v9, rfl, ho0, hb⟩; have HO9 := a_ (Kd.R_lower ho0 (below_size (bl_2 HB GEa GEb))); replace BR := bB_ BR hb; replace BT := bB_ BT hb; replace BD := bB_ BD hb; replace BN := bB_ BN hb; replace BKa := bB_ BKa hb; replace BKb := bB_ BKb hb; replace HB := hB_ (bl_2 HB GEa GEb) hb; clear hb ho0; obtain ⟨A9, c9, e9⟩ := Kd.R_slice HO9.out; subst e9) | ((with_reducible refine gd_ 8 ?_); refine bx_ 8 #[.slice none 0 0, .bool false, .int .i64 0] 24 ?_; intro gc hg w_ hbox hb; have BKc := a_ (hbox); have GEc := a_ (bs_2 hg HB GEa GEb); have NBa_c := nB_ hg BKa; have NBc_a := nC_ hg BKa; have NBb_c := nB_ hg BKb; have NBc_b := nC_ hg BKb; have NBr_c := nB_ hg BR; have NBt_c := nB_ hg BT; have NBd_c := nB_ hg BD; have NBn_c := nB_ hg BN; replace BR := bB_ BR hb; replace BT := bB_ BT hb; replace BD := bB_ BD hb; replace BN := bB_ BN hb; replace BKa := bB_ BKa hb; replace BKb := bB_ BKb hb; replace HO9 := a_ (Kd.R_below (by refine rq_ ?_; exact HO9.out) hb); replace HB := hB_ (bl_2 HB GEa GEb) hb; clear hb hbox hg; have hn1 := NBa_c.out; have hn2 := NBc_a.out; have hn3 := NBb_c.out; have hn4 := NBc_b.out; have hn5 := NBa_b.out; have hn6 := NBb_a.out; clear hca_0 hca_1 hca_2 hfa_0 hfa_1 hfa_2 hcr; obtain ⟨hcza_0, hcza_1, hcza_2, hfza_0, hfza_1, hfza_2⟩ := c3_ BKa; obtain ⟨hczb_0, hczb_1, hczb_2, hfzb_0, hfzb_1, hfzb_2⟩ := c3_ BKb; obtain ⟨hczc_0, hczc_1, hczc_2, hfzc_0, hfzc_1, hfzc_2⟩ := c3_ BKc))
     go_roundg 3
     case measure => omega
     case rel => exact ⟨⟨bp_2 BR NBr_a NBr_c⟩, ⟨bp_2 BT NBt_a NBt_c⟩, ⟨bp_2 BD NBd_a NBd_c⟩, ⟨bp_2 BN NBn_a NBn_c⟩, ⟨bp_2 BKb NBb_a NBb_c⟩, ⟨bl_3 HB GEa GEb GEc⟩, .inr (.inl ⟨rfl, by first | rfl | (simp; done), _, x1, x2, x3, ⟨bp_1 BKa NBa_c⟩, ⟨by refine rq_ ?_; exact Kd.R_mono (Kd.R_far (p := ⟨ga, 2, none⟩) (Kd.R_far (p := ⟨ga, 1, none⟩) (Kd.R_far (p := ⟨ga, 0, none⟩) (Kd.R_far (p := ⟨gc, 2, none⟩) (Kd.R_far (p := ⟨gc, 1, none⟩) (Kd.R_far (p := ⟨gc, 0, none⟩) (Kd.R_types (Kd.R_types HO9.out BKa.out (by decide)) BKc.out (by decide)) (fun _ hk => hk.2) _) (fun _ hk => hk.2) _) (fun _ hk => hk.2) _) (fun _ hk => hk.1.2) _) (fun _ hk => hk.1.2) _) (fun _ hk => hk.1.2) _) (fun _ hk => trivial)⟩, H2⟩)⟩
    rw [if_neg c4] at H
    have c4b0 : (x4 == 0) = false := beq_eq_false_iff_ne.mpr c4
    have c4b1 : (x4 != 0) = true := bne_iff_ne.mpr c4
    clear c4
    simp only [Option.some.injEq, Prod.mk.injEq] at H
    obtain ⟨rfl, rfl, rfl, rfl⟩ := H
    go_wp2_with (first | (go_at_call 69; (with_reducible refine (hard_Put_1.calls k gt gd A0_0 c0_0 l0_0 a0_1 a0_2 tm dt x1 x2 x3 x4 _ ?bx ?bz ?s1 ?s2 A1.out).mono ?_); (case bx => exact bk_ BT); (case bz => exact bk_ BD); (case s1 => exact cl_ (Kd.C_below HR0_0.out HB.out)); (case s2 => exact HC0_0.out); rintro e w9 ⟨v9, rfl, ho0, hb⟩; have HO9 := a_ (Kd.R_lower ho0 (below_size (bl_2 HB GEa GEb))); replace BR := bB_ BR hb; replace BT := bB_ BT hb; replace BD := bB_ BD hb; replace BN := bB_ BN hb; replace BKa := bB_ BKa hb; replace BKb := bB_ BKb hb; replace HB := hB_ (bl_2 HB GEa GEb) hb; clear hb ho0; obtain ⟨A9, c9, e9⟩ := Kd.R_slice HO9.out; subst e9) | ((with_reducible refine gd_ 8 ?_); refine bx_ 8 #[.slice none 0 0, .bool false, .int .i64 0] 24 ?_; intro gc hg w_ hbox hb; have BKc := a_ (hbox); have GEc := a_ (bs_2 hg HB GEa GEb); have NBa_c := nB_ hg BKa; have NBc_a := nC_ hg BKa; have NBb_c := nB_ hg BKb; have NBc_b := nC_ hg BKb; have NBr_c := nB_ hg BR; have NBt_c := nB_ hg BT; have NBd_c := nB_ hg BD; have NBn_c := nB_ hg BN; replace BR := bB_ BR hb; replace BT := bB_ BT hb; replace BD := bB_ BD hb; replace BN := bB_ BN hb; replace BKa := bB_ BKa hb; replace BKb := bB_ BKb hb; replace HO9 := a_ (Kd.R_below (by refine rq_ ?_; exact HO9.out) hb); replace HB := hB_ (bl_2 HB GEa GEb) hb; clear hb hbox hg; have hn1 := NBa_c.out; have hn2 := NBc_a.out; have hn3 := NBb_c.out; have hn4 := NBc_b.out; have hn5 := NBa_b.out; have hn6 := NBb_a.out; clear hca_0 hca_1 hca_2 hfa_0 hfa_1 hfa_2 hcr; obtain ⟨hcza_0, hcza_1, hcza_2, hfza_0, hfza_1, hfza_2⟩ := c3_ BKa; obtain ⟨hczb_0, hczb_1, hczb_2, hfzb_0, hfzb_1, hfzb_2⟩ := c3_ BKb; obtain ⟨hczc_0, hczc_1, hczc_2, hfzc_0, hfzc_1, hfzc_2⟩ := c3_ BKc))
    refine bodyPost_ret (results_ct rfl _ _ gb 24 #[.slice A9 x1.length c9, .bool x2, .int .i64 x3] (0, 0) _ rfl (bp_1 BKb NBb_c) Try.underlying24 rfl (by kernel_rfl)) rfl ?_
    exact ⟨_, fz_, by refine rq_ ?_; exact Kd.R_mono (Kd.R_far (p := ⟨gb, 2, none⟩) (Kd.R_far (p := ⟨gb, 1, none⟩) (Kd.R_far (p := ⟨gb, 0, none⟩) (Kd.R_far (p := ⟨gc, 2, none⟩) (Kd.R_far (p := ⟨gc, 1, none⟩) (Kd.R_far (p := ⟨gc, 0, none⟩) (Kd.R_types (Kd.R_types HO9.out BKb.out (by decide)) BKc.out (by decide)) (fun _ hk => hk.2) _) (fun _ hk => hk.2) _) (fun _ hk => hk.2) _) (fun _ hk => hk.1.2) _) (fun _ hk => hk.1.2) _) (fun _ hk => hk.1.2) _) (fun _ hk => trivial), bl_3 HB GEa GEb GEc⟩
  · obtain ⟨⟨x1, x2, x3, x4⟩, A10, H⟩ := Option.bind_eq_some_iff.mp (show (disk_Sync.f k l_ b_ i_ tm).bind _ = some _ from H1.out)
    have A1 := a_ A10
    clear A10 H' H1
    try dsimp only at H
    obtain ⟨Ao, co, eo⟩ := Kd.R_slice HO.out
    subst eo
    obtain ⟨hca_0, hca_1, hca_2, hfa_0, hfa_1, hfa_2⟩ := c3_ BKa
    have hcr := (blk_cell BR.out 1).trans rfl
    by_cases c4 : x4 = 0
    ·rw [if_pos c4] at H
     have c4b0 : (x4 == 0) = true := beq_iff_eq.mpr c4
     have c4b1 : (x4 != 0) = false := bne_eq_false_iff_eq.mpr c4
     clear c4
     have H2 := a_ H
     clear H
     go_wp2_with (first | (go_at_call 71; (with_reducible refine (hard_Put_2.calls k gt Ao co l_ b_ i_ tm x1 x2 x3 x4 _ ?bx ?s1 ?s2 A1.out).mono ?_); (case bx => exact bk_ BT); (case s1 => exact cl_ ((Kd.R_reads' HO.out).2.2)); (case s2 => exact (Kd.R_reads' HO.out).2.1); rintro e w9 ⟨v9, rfl, ho0, hb⟩; have HO9 := a_ (Kd.R_lower ho0 (below_size (bl_2 HB GEa GEb))); replace BR := bB_ BR hb; replace BT := bB_ BT hb; replace BD := bB_ BD hb; replace BN := bB_ BN hb; replace BKa := bB_ BKa hb; replace BKb := bB_ BKb hb; replace HB := hB_ (bl_2 HB GEa GEb) hb; clear hb ho0; obtain ⟨A9, c9, e9⟩ := Kd.R_slice HO9.out; subst e9) | ((with_reducible refine gd_ 8 ?_); refine bx_ 8 #[.slice none 0 0, .bool false, .int .i64 0] 24 ?_; intro gc hg w_ hbox hb; have BKc := a_ (hbox); have GEc := a_ (bs_2 hg HB GEa GEb); have NBa_c := nB_ hg BKa; have NBc_a := nC_ hg BKa; have NBb_c := nB_ hg BKb; have NBc_b := nC_ hg BKb; have NBr_c := nB_ hg BR; have NBt_c := nB_ hg BT; have NBd_c := nB_ hg BD; have NBn_c := nB_ hg BN; replace BR := bB_ BR hb; replace BT := bB_ BT hb; replace BD := bB_ BD hb; replace BN := bB_ BN hb; replace BKa := bB_ BKa hb; replace BKb := bB_ BKb hb; replace HO9 := a_ (Kd.R_below (by refine rq_ ?_; exact HO9.out) hb); replace HB := hB_ (bl_2 HB GEa GEb) hb; clear hb hbox hg; have hn1 := NBa_c.out; have hn2 := NBc_a.out; have hn3 := NBb_c.out; have hn4 := NBc_b.out; have hn5 := NBa_b.out; have hn6 := NBb_a.out; clear hca_0 hca_1 hca_2 hfa_0 hfa_1 hfa_2 hcr; obtain ⟨hcza_0, hcza_1, hcza_2, hfza_0, hfza_1, hfza_2⟩ := c3_ BKa; obtain ⟨hczb_0, hczb_1, hczb_2, hfzb_0, hfzb_1, hfzb_2⟩ := c3_ BKb; obtain ⟨hczc_0, hczc_1, hczc_2, hfzc_0, hfzc_1, hfzc_2⟩ := c3_ BKc))
     go_roundg 2
     case measure => omega
     case rel => exact ⟨⟨bp_2 BR NBr_a NBr_c⟩, ⟨bp_2 BT NBt_a NBt_c⟩, ⟨bp_2 BD NBd_a NBd_c⟩, ⟨bp_2 BN NBn_a NBn_c⟩, ⟨bp_2 BKb NBb_a NBb_c⟩, ⟨bl_3 HB GEa GEb GEc⟩, .inr (.inr (.inl ⟨rfl, by first | rfl | (simp; done), _, x1, x2, x3, ⟨bp_1 BKa NBa_c⟩, ⟨by refine rq_ ?_; exact Kd.R_mono (Kd.R_far (p := ⟨ga, 2, none⟩) (Kd.R_far (p := ⟨ga, 1, none⟩) (Kd.R_far (p := ⟨ga, 0, none⟩) (Kd.R_far (p := ⟨gc, 2, none⟩) (Kd.R_far (p := ⟨gc, 1, none⟩) (Kd.R_far (p := ⟨gc, 0, none⟩) (Kd.R_types (Kd.R_types HO9.out BKa.out (by decide)) BKc.out (by decide)) (fun _ hk => hk.2) _) (fun _ hk => hk.2) _) (fun _ hk => hk.2) _) (fun _ hk => hk.1.2) _) (fun _ hk => hk.1.2) _) (fun _ hk => hk.1.2) _) (fun _ hk => trivial)⟩, H2⟩))⟩
    rw [if_neg c4] at H
    have c4b0 : (x4 == 0) = false := beq_eq_false_iff_ne.mpr c4
    have c4b1 : (x4 != 0) = true := bne_iff_ne.mpr c4
    clear c4
    simp only [Option.some.injEq, Prod.mk.injEq] at H
    obtain ⟨rfl, rfl, rfl, rfl⟩ := H
    go_wp2_with (first | (go_at_call 71; (with_reducible refine (hard_Put_2.calls k gt Ao co l_ b_ i_ tm x1 x2 x3 x4 _ ?bx ?s1 ?s2 A1.out).mono ?_); (case bx => exact bk_ BT); (case s1 => exact cl_ ((Kd.R_reads' HO.out).2.2)); (case s2 => exact (Kd.R_reads' HO.out).2.1); rintro e w9 ⟨v9, rfl, ho0, hb⟩; have HO9 := a_ (Kd.R_lower ho0 (below_size (bl_2 HB GEa GEb))); replace BR := bB_ BR hb; replace BT := bB_ BT hb; replace BD := bB_ BD hb; replace BN := bB_ BN hb; replace BKa := bB_ BKa hb; replace BKb := bB_ BKb hb; replace HB := hB_ (bl_2 HB GEa GEb) hb; clear hb ho0; obtain ⟨A9, c9, e9⟩ := Kd.R_slice HO9.out; subst e9) | ((with_reducible refine gd_ 8 ?_); refine bx_ 8 #[.slice none 0 0, .bool false, .int .i64 0] 24 ?_; intro gc hg w_ hbox hb; have BKc := a_ (hbox); have GEc := a_ (bs_2 hg HB GEa GEb); have NBa_c := nB_ hg BKa; have NBc_a := nC_ hg BKa; have NBb_c := nB_ hg BKb; have NBc_b := nC_ hg BKb; have NBr_c := nB_ hg BR; have NBt_c := nB_ hg BT; have NBd_c := nB_ hg BD; have NBn_c := nB_ hg BN; replace BR := bB_ BR hb; replace BT := bB_ BT hb; replace BD := bB_ BD hb; replace BN := bB_ BN hb; replace BKa := bB_ BKa hb; replace BKb := bB_ BKb hb; replace HO9 := a_ (Kd.R_below (by refine rq_ ?_; exact HO9.out) hb); replace HB := hB_ (bl_2 HB GEa GEb) hb; clear hb hbox hg; have hn1 := NBa_c.out; have hn2 := NBc_a.out; have hn3 := NBb_c.out; have hn4 := NBc_b.out; have hn5 := NBa_b.out; have hn6 := NBb_a.out; clear hca_0 hca_1 hca_2 hfa_0 hfa_1 hfa_2 hcr; obtain ⟨hcza_0, hcza_1, hcza_2, hfza_0, hfza_1, hfza_2⟩ := c3_ BKa; obtain ⟨hczb_0, hczb_1, hczb_2, hfzb_0, hfzb_1, hfzb_2⟩ := c3_ BKb; obtain ⟨hczc_0, hczc_1, hczc_2, hfzc_0, hfzc_1, hfzc_2⟩ := c3_ BKc))
    refine bodyPost_ret (results_ct rfl _ _ gb 24 #[.slice A9 x1.length c9, .bool x2, .int .i64 x3] (0, 0) _ rfl (bp_1 BKb NBb_c) Try.underlying24 rfl (by kernel_rfl)) rfl ?_
    exact ⟨_, fz_, by refine rq_ ?_; exact Kd.R_mono (Kd.R_far (p := ⟨gb, 2, none⟩) (Kd.R_far (p := ⟨gb, 1, none⟩) (Kd.R_far (p := ⟨gb, 0, none⟩) (Kd.R_far (p := ⟨gc, 2, none⟩) (Kd.R_far (p := ⟨gc, 1, none⟩) (Kd.R_far (p := ⟨gc, 0, none⟩) (Kd.R_types (Kd.R_types HO9.out BKb.out (by decide)) BKc.out (by decide)) (fun _ hk => hk.2) _) (fun _ hk => hk.2) _) (fun _ hk => hk.2) _) (fun _ hk => hk.1.2) _) (fun _ hk => hk.1.2) _) (fun _ hk => hk.1.2) _) (fun _ hk => trivial), bl_3 HB GEa GEb GEc⟩
  · obtain ⟨⟨x1, x2, x3, x4⟩, A10, H⟩ := Option.bind_eq_some_iff.mp (show (disk_Swap.f k l_ b_ i_ tm nm).bind _ = some _ from H1.out)
    have A1 := a_ A10
    clear A10 H' H1
    try dsimp only at H
    obtain ⟨Ao, co, eo⟩ := Kd.R_slice HO.out
    subst eo
    obtain ⟨hca_0, hca_1, hca_2, hfa_0, hfa_1, hfa_2⟩ := c3_ BKa
    have hcr := (blk_cell BR.out 2).trans rfl
    by_cases c4 : x4 = 0
    ·rw [if_pos c4] at H
     have c4b0 : (x4 == 0) = true := beq_iff_eq.mpr c4
     have c4b1 : (x4 != 0) = false := bne_eq_false_iff_eq.mpr c4
     clear c4
     have H2 := a_ H
     clear H
     go_wp2_with (first | (go_at_call 73; (with_reducible refine (hard_Put_3.calls k gt gn Ao co l_ b_ i_ tm nm x1 x2 x3 x4 _ ?bx ?bz ?s1 ?s2 A1.out).mono ?_); (case bx => exact bk_ BT); (case bz => exact bk_ BN); (case s1 => exact cl_ ((Kd.R_reads' HO.out).2.2)); (case s2 => exact (Kd.R_reads' HO.out).2.1); rintro e w9 ⟨v9, rfl, ho0, hb⟩; have HO9 := a_ (Kd.R_lower ho0 (below_size (bl_2 HB GEa GEb))); replace BR := bB_ BR hb; replace BT := bB_ BT hb; replace BD := bB_ BD hb; replace BN := bB_ BN hb; replace BKa := bB_ BKa hb; replace BKb := bB_ BKb hb; replace HB := hB_ (bl_2 HB GEa GEb) hb; clear hb ho0; obtain ⟨A9, c9, e9⟩ := Kd.R_slice HO9.out; subst e9) | ((with_reducible refine gd_ 8 ?_); refine bx_ 8 #[.slice none 0 0, .bool false, .int .i64 0] 24 ?_; intro gc hg w_ hbox hb; have BKc := a_ (hbox); have GEc := a_ (bs_2 hg HB GEa GEb); have NBa_c := nB_ hg BKa; have NBc_a := nC_ hg BKa; have NBb_c := nB_ hg BKb; have NBc_b := nC_ hg BKb; have NBr_c := nB_ hg BR; have NBt_c := nB_ hg BT; have NBd_c := nB_ hg BD; have NBn_c := nB_ hg BN; replace BR := bB_ BR hb; replace BT := bB_ BT hb; replace BD := bB_ BD hb; replace BN := bB_ BN hb; replace BKa := bB_ BKa hb; replace BKb := bB_ BKb hb; replace HO9 := a_ (Kd.R_below (by refine rq_ ?_; exact HO9.out) hb); replace HB := hB_ (bl_2 HB GEa GEb) hb; clear hb hbox hg; have hn1 := NBa_c.out; have hn2 := NBc_a.out; have hn3 := NBb_c.out; have hn4 := NBc_b.out; have hn5 := NBa_b.out; have hn6 := NBb_a.out; clear hca_0 hca_1 hca_2 hfa_0 hfa_1 hfa_2 hcr; obtain ⟨hcza_0, hcza_1, hcza_2, hfza_0, hfza_1, hfza_2⟩ := c3_ BKa; obtain ⟨hczb_0, hczb_1, hczb_2, hfzb_0, hfzb_1, hfzb_2⟩ := c3_ BKb; obtain ⟨hczc_0, hczc_1, hczc_2, hfzc_0, hfzc_1, hfzc_2⟩ := c3_ BKc))
     go_roundg 1
     case measure => omega
     case rel => exact ⟨⟨bp_2 BR NBr_a NBr_c⟩, ⟨bp_2 BT NBt_a NBt_c⟩, ⟨bp_2 BD NBd_a NBd_c⟩, ⟨bp_2 BN NBn_a NBn_c⟩, ⟨bp_2 BKb NBb_a NBb_c⟩, ⟨bl_3 HB GEa GEb GEc⟩, .inr (.inr (.inr ⟨rfl, by first | rfl | (simp; done), _, x1, x2, x3, ⟨bp_1 BKa NBa_c⟩, ⟨by refine rq_ ?_; exact Kd.R_mono (Kd.R_far (p := ⟨ga, 2, none⟩) (Kd.R_far (p := ⟨ga, 1, none⟩) (Kd.R_far (p := ⟨ga, 0, none⟩) (Kd.R_far (p := ⟨gc, 2, none⟩) (Kd.R_far (p := ⟨gc, 1, none⟩) (Kd.R_far (p := ⟨gc, 0, none⟩) (Kd.R_types (Kd.R_types HO9.out BKa.out (by decide)) BKc.out (by decide)) (fun _ hk => hk.2) _) (fun _ hk => hk.2) _) (fun _ hk => hk.2) _) (fun _ hk => hk.1.2) _) (fun _ hk => hk.1.2) _) (fun _ hk => hk.1.2) _) (fun _ hk => trivial)⟩, H2⟩))⟩
    rw [if_neg c4] at H
    have c4b0 : (x4 == 0) = false := beq_eq_false_iff_ne.mpr c4
    have c4b1 : (x4 != 0) = true := bne_iff_ne.mpr c4
    clear c4
    simp only [Option.some.injEq, Prod.mk.injEq] at H
    obtain ⟨rfl, rfl, rfl, rfl⟩ := H
    go_wp2_with (first | (go_at_call 73; (with_reducible refine (hard_Put_3.calls k gt gn Ao co l_ b_ i_ tm nm x1 x2 x3 x4 _ ?bx ?bz ?s1 ?s2 A1.out).mono ?_); (case bx => exact bk_ BT); (case bz => exact bk_ BN); (case s1 => exact cl_ ((Kd.R_reads' HO.out).2.2)); (case s2 => exact (Kd.R_reads' HO.out).2.1); rintro e w9 ⟨v9, rfl, ho0, hb⟩; have HO9 := a_ (Kd.R_lower ho0 (below_size (bl_2 HB GEa GEb))); replace BR := bB_ BR hb; replace BT := bB_ BT hb; replace BD := bB_ BD hb; replace BN := bB_ BN hb; replace BKa := bB_ BKa hb; replace BKb := bB_ BKb hb; replace HB := hB_ (bl_2 HB GEa GEb) hb; clear hb ho0; obtain ⟨A9, c9, e9⟩ := Kd.R_slice HO9.out; subst e9) | ((with_reducible refine gd_ 8 ?_); refine bx_ 8 #[.slice none 0 0, .bool false, .int .i64 0] 24 ?_; intro gc hg w_ hbox hb; have BKc := a_ (hbox); have GEc := a_ (bs_2 hg HB GEa GEb); have NBa_c := nB_ hg BKa; have NBc_a := nC_ hg BKa; have NBb_c := nB_ hg BKb; have NBc_b := nC_ hg BKb; have NBr_c := nB_ hg BR; have NBt_c := nB_ hg BT; have NBd_c := nB_ hg BD; have NBn_c := nB_ hg BN; replace BR := bB_ BR hb; replace BT := bB_ BT hb; replace BD := bB_ BD hb; replace BN := bB_ BN hb; replace BKa := bB_ BKa hb; replace BKb := bB_ BKb hb; replace HO9 := a_ (Kd.R_below (by refine rq_ ?_; exact HO9.out) hb); replace HB := hB_ (bl_2 HB GEa GEb) hb; clear hb hbox hg; have hn1 := NBa_c.out; have hn2 := NBc_a.out; have hn3 := NBb_c.out; have hn4 := NBc_b.out; have hn5 := NBa_b.out; have hn6 := NBb_a.out; clear hca_0 hca_1 hca_2 hfa_0 hfa_1 hfa_2 hcr; obtain ⟨hcza_0, hcza_1, hcza_2, hfza_0, hfza_1, hfza_2⟩ := c3_ BKa; obtain ⟨hczb_0, hczb_1, hczb_2, hfzb_0, hfzb_1, hfzb_2⟩ := c3_ BKb; obtain ⟨hczc_0, hczc_1, hczc_2, hfzc_0, hfzc_1, hfzc_2⟩ := c3_ BKc))
    refine bodyPost_ret (results_ct rfl _ _ gb 24 #[.slice A9 x1.length c9, .bool x2, .int .i64 x3] (0, 0) _ rfl (bp_1 BKb NBb_c) Try.underlying24 rfl (by kernel_rfl)) rfl ?_
    exact ⟨_, fz_, by refine rq_ ?_; exact Kd.R_mono (Kd.R_far (p := ⟨gb, 2, none⟩) (Kd.R_far (p := ⟨gb, 1, none⟩) (Kd.R_far (p := ⟨gb, 0, none⟩) (Kd.R_far (p := ⟨gc, 2, none⟩) (Kd.R_far (p := ⟨gc, 1, none⟩) (Kd.R_far (p := ⟨gc, 0, none⟩) (Kd.R_types (Kd.R_types HO9.out BKb.out (by decide)) BKc.out (by decide)) (fun _ hk => hk.2) _) (fun _ hk => hk.2) _) (fun _ hk => hk.2) _) (fun _ hk => hk.1.2) _) (fun _ hk => hk.1.2) _) (fun _ hk => hk.1.2) _) (fun _ hk => trivial), bl_3 HB GEa GEb GEc⟩
  · have H := H1.out
    clear H1 H'
    simp only [Option.some.injEq, Prod.mk.injEq] at H
    obtain ⟨rfl, rfl, rfl, rfl⟩ := H
    obtain ⟨Ao, co, eo⟩ := Kd.R_slice HO.out
    subst eo
    obtain ⟨hca_0, hca_1, hca_2, hfa_0, hfa_1, hfa_2⟩ := c3_ BKa
    obtain ⟨hcb_0, hcb_1, hcb_2, hfb_0, hfb_1, hfb_2⟩ := c3_ BKb
    have hn1 := NBa_b.out
    have hn2 := NBb_a.out
    go_wp2
    refine bodyPost_ret (results_ct rfl _ _ gb 24 #[.slice Ao l_.length co, .bool b_, .int .i64 i_] (0, 0) _ rfl (bp_0 BKb) Try.underlying24 rfl (by kernel_rfl)) rfl ?_
    exact ⟨_, fz_, by refine rq_ ?_; exact Kd.R_mono (Kd.R_far (p := ⟨gb, 2, none⟩) (Kd.R_far (p := ⟨gb, 1, none⟩) (Kd.R_far (p := ⟨gb, 0, none⟩) (Kd.R_types HO.out BKb.out (by decide)) (fun _ hk => hk.2) _) (fun _ hk => hk.2) _) (fun _ hk => hk.2) _) (fun _ hk => trivial), bl_2 HB GEa GEb⟩

def hard_Put.f (k : Nat) (l0_0 : List (S71)) (a0_1 : Bool) (a0_2 : Int) (nm dt : ByteArray) : Option ((List (S71)) × Bool × Int × Int) := if nm.size + 4 ≤ 9223372036854775807 then ((disk_Read.f k l0_0 a0_1 a0_2 (nm ++ (⟨#[46, 116, 109, 112]⟩ : ByteArray))).bind fun t => if t.2 = 0 then ((disk_Drop.f k l0_0 a0_1 a0_2 (nm ++ (⟨#[46, 116, 109, 112]⟩ : ByteArray))).bind fun x => if x.2.2.2 = 0 then hard_all.f k (nm ++ (⟨#[46, 116, 109, 112]⟩ : ByteArray)) nm dt x.1 x.2.1 x.2.2.1 else some (x.1, x.2.1, x.2.2.1, x.2.2.2)) else hard_all.f k (nm ++ (⟨#[46, 116, 109, 112]⟩ : ByteArray)) nm dt l0_0 a0_1 a0_2) else none
theorem hard_Put.mono : ∀ a0 a1 a2 a3 a4 k, LeO (hard_Put.f k a0 a1 a2 a3 a4) (hard_Put.f (k + 1) a0 a1 a2 a3 a4) := fun a0 a1 a2 a3 a4 k => LeO.ite (LeO.bind (disk_Read.mono _ _ _ _ k) (fun _ => LeO.ite (LeO.bind (disk_Drop.mono _ _ _ _ k) (fun _ => LeO.ite (hard_all.mono _ _ _ _ _ _ k) (LeO.refl _))) (hard_all.mono _ _ _ _ _ _ k))) (LeO.none _)
theorem slice_event_ {P : Program} {ops : Array Oper} {rest : List Oper} {o : Oper} {a : Act} {Q : Exit → Act → World → Prop} {W : World} (hgd : o.guard = none) {N : Tmp} (_hd : o.dst = some N) {cs : Array Value} {t : TypeId} {m c : Nat}
    (hrun : (execOp a.eval o).run P W = .ok (.value (.slice (some ⟨W.heap.size, 0, none⟩) m c)) (W.alloc (.cells cs t (0, 0))))
    (h : ∀ g, g = W.heap.size → ∀ w1, w1.heap[g]? = some (.cells cs t (0, 0)) → Below W.heap.size W w1 → wpList P ops Q rest (a.put o.dst (.slice (some ⟨g, 0, none⟩) m c)) w1) : wpList P ops Q (o :: rest) a W := Kd.event_run hgd hrun (h _ rfl _ (blk_new W _) (below_alloc (Below.refl _ _) _))
theorem hard_Put.calls (k : Nat) (A0_0 : Option Addr) (c0_0 : Nat) (l0_0 : List (S71)) (a0_1 : Bool) (a0_2 : Int) (nm dt : ByteArray) (r1 : List (S71)) (r2 : Bool) (r3 : Int) (r4 : Int) (w : World) (hr0_0 : Kd.C k71 w A0_0 l0_0.length l0_0) (hc0_0 : l0_0.length ≤ c0_0) (h : hard_Put.f k l0_0 a0_1 a0_2 nm dt = some (r1, r2, r3, r4)) :
  Calls Try.prog 45 #[.agg #[.slice A0_0 l0_0.length c0_0, .bool a0_1, .int .i64 a0_2], .string nm, .string dt] w fun e w' => ∃ v0_ : Value, e = .returned (.tuple #[.agg #[v0_, .bool r2, .int .i64 r3], .int .i64 r4]) ∧ Kd.R k71 71 w' w.heap.size (fun _ => True) v0_ r1 ∧ Below w.heap.size w w' := by
 have hu24 := Try.underlying24
 have HR0_0 := a_ hr0_0
 have HC0_0 := a_ hc0_0
 clear hr0_0 hc0_0
 have HB := a_ (Below.refl w.heap.size w)
 have H : (if nm.size + 4 ≤ 9223372036854775807 then ((disk_Read.f k l0_0 a0_1 a0_2 (nm ++ (⟨#[46, 116, 109, 112]⟩ : ByteArray))).bind fun t => if t.2 = 0 then ((disk_Drop.f k l0_0 a0_1 a0_2 (nm ++ (⟨#[46, 116, 109, 112]⟩ : ByteArray))).bind fun x => if x.2.2.2 = 0 then hard_all.f k (nm ++ (⟨#[46, 116, 109, 112]⟩ : ByteArray)) nm dt x.1 x.2.1 x.2.2.1 else some (x.1, x.2.1, x.2.2.1, x.2.2.2)) else hard_all.f k (nm ++ (⟨#[46, 116, 109, 112]⟩ : ByteArray)) nm dt l0_0 a0_1 a0_2) else none) = some (r1, r2, r3, r4) := h
 clear h
 by_cases c3 : nm.size + 4 ≤ 9223372036854775807
 case neg =>
  rw [if_neg c3] at H
  exact absurd H (by simp)
 case pos =>
  rw [if_pos c3] at H
  have c3b0 := eq_true c3
  have c3b1 : decide (nm.size + 4 ≤ 9223372036854775807) = true := decide_eq_true c3
  have c3b2 : (9223372036854775807 < nm.size + 4) = False := eq_false (Nat.not_lt.2 c3)
  clear c3
  obtain ⟨⟨t1, t2⟩, A10, H⟩ := Option.bind_eq_some_iff.mp H
  have A1 := a_ A10
  clear A10
  by_cases c4 : t2 = 0
  case neg =>
   replace H : hard_all.f k (nm ++ (⟨#[46, 116, 109, 112]⟩ : ByteArray)) nm dt l0_0 a0_1 a0_2 = some (r1, r2, r3, r4) := by rw [if_neg c4] at H; exact H
   have c4b0 : (t2 == 0) = false := beq_eq_false_iff_ne.mpr c4
   have c4b1 : (t2 != 0) = true := bne_iff_ne.mpr c4
   clear c4
   have A3 := a_ H
   clear H
   go_enter Try.func45, Try.ntmps45
   go_wp2_with (first | ((with_reducible refine gd_ 3 ?_); refine bx_ 3 #[.slice A0_0 l0_0.length c0_0, .bool a0_1, .int .i64 a0_2] 24 ?_; intro ga hg w_ hbox hb; have BKa := a_ (hbox); have GEa := a_ (bs_0 hg HB ); replace HB := hB_ (bl_ HB) hb; clear hb hbox hg) | ((with_reducible refine gd_ 4 ?_); refine bx_ 4 #[.string nm] 9 ?_; intro gn hg w_ hbox hb; have BKn := a_ (hbox); have GEn := a_ (bs_1 hg HB GEa); have NBn_a := nC_ hg BKa; replace BKa := bB_ BKa hb; replace HB := hB_ (bl_1 HB GEa) hb; clear hb hbox hg) | ((with_reducible refine gd_ 5 ?_); refine bx_ 5 #[.string dt] 9 ?_; intro gy hg w_ hbox hb; have BKy := a_ (hbox); have GEy := a_ (bs_2 hg HB GEa GEn); have NBy_a := nC_ hg BKa; replace BKa := bB_ BKa hb; replace BKn := bB_ BKn hb; replace HB := hB_ (bl_2 HB GEa GEn) hb; clear hb hbox hg) | ((with_reducible refine gd_ 6 ?_); refine bx_ 6 #[.slice none 0 0, .bool false, .int .i64 0] 24 ?_; intro gr hg w_ hbox hb; have BKr := a_ (hbox); have GEr := a_ (bs_3 hg HB GEa GEn GEy); have NBr_a := nC_ hg BKa; replace BKa := bB_ BKa hb; replace BKn := bB_ BKn hb; replace BKy := bB_ BKy hb; replace HB := hB_ (bl_3 HB GEa GEn GEy) hb; clear hb hbox hg; obtain ⟨hczn, hfzn⟩ := c1_ BKn) | ((with_reducible refine gd_ 8 ?_); refine bx_ 8 #[.string (⟨#[]⟩ : ByteArray)] 9 ?_; intro gt hg w_ hbox hb; have BKt := a_ (hbox); have GEt := a_ (bs_4 hg HB GEa GEn GEy GEr); have NBa_t := nB_ hg BKa; have NBt_a := nC_ hg BKa; have NBn_t := nB_ hg BKn; have NBt_n := nC_ hg BKn; have NBy_t := nB_ hg BKy; have NBt_y := nC_ hg BKy; have NBr_t := nB_ hg BKr; have NBt_r := nC_ hg BKr; replace BKa := bB_ BKa hb; replace BKn := bB_ BKn hb; replace BKy := bB_ BKy hb; replace BKr := bB_ BKr hb; replace HB := hB_ (bl_4 HB GEa GEn GEy GEr) hb; clear hb hbox hg; have hna1 := NBa_t.out; have hna2 := NBt_a.out; have hnn1 := NBn_t.out; have hnn2 := NBt_n.out; have hny1 := NBy_t.out; have hny2 := NBt_y.out; have hnr1 := NBr_t.out; have hnr2 := NBt_r.out; obtain ⟨hczt, hfzt⟩ := c1_ BKt; obtain ⟨hcza_0, hcza_1, hcza_2, hfza_0, hfza_1, hfza_2⟩ := c3_ BKa) | ((with_reducible refine gk_ 24 ?_); refine gl_ (some 18) Try.func24 #[.agg #[.slice A0_0 l0_0.length c0_0, .bool a0_1, .int .i64 a0_2], .string (nm ++ (⟨#[46, 116, 109, 112]⟩ : ByteArray))] ?_; (with_reducible refine (disk_Read.calls k _ _ l0_0 a0_1 a0_2 (nm ++ (⟨#[46, 116, 109, 112]⟩ : ByteArray)) t1 t2 _ ?side1 ?side2 A1.out).mono ?_); (case side1 => exact Kd.C_below HR0_0.out (bl_5 HB GEa GEn GEy GEr GEt)); (case side2 => exact HC0_0.out); rintro e w9 ⟨rfl, hb⟩; refine ⟨_, rfl, ?_⟩; have Na : Aside0 (w9.heap[ga]? = some (.cells #[.slice A0_0 l0_0.length c0_0, .bool a0_1, .int .i64 a0_2] 24 (0, 0))) := ⟨blk_below (bp_1 BKa NBa_t) hb⟩; have Nn : Aside0 (w9.heap[gn]? = some (.cells #[.string nm] 9 (0, 0))) := ⟨blk_below (bp_1 BKn NBn_t) hb⟩; have Ny : Aside0 (w9.heap[gy]? = some (.cells #[.string dt] 9 (0, 0))) := ⟨blk_below (bp_1 BKy NBy_t) hb⟩; have Nr : Aside0 (w9.heap[gr]? = some (.cells #[.slice none 0 0, .bool false, .int .i64 0] 24 (0, 0))) := ⟨blk_below (bp_1 BKr NBr_t) hb⟩; have Nt : Aside0 (w9.heap[gt]? = some (.cells #[.string (nm ++ (⟨#[46, 116, 109, 112]⟩ : ByteArray))] 9 (0, 0))) := ⟨blk_below (bp_0 BKt) hb⟩; clear BKa BKn BKy BKr BKt; have BKa := Na; have BKn := Nn; have BKy := Ny; have BKr := Nr; have BKt := Nt; clear Na Nn Ny Nr Nt; replace HB := hB_ (bl_5 HB GEa GEn GEy GEr GEt) hb; clear hb; obtain ⟨hczb_0, hczb_1, hczb_2, hfzb_0, hfzb_1, hfzb_2⟩ := c3_ BKa; obtain ⟨hczt2, hfzt2⟩ := c1_ BKt) | ((with_reducible refine gd_ 38 ?_); refine slice_event_ ?hg (N := 38) ?hd (cs := #[.func (.func 69) #[] #[.pointer (some ⟨gt, 0, none⟩), .pointer (some ⟨gy, 0, none⟩)], .func (.func 71) #[] #[.pointer (some ⟨gt, 0, none⟩)], .func (.func 73) #[] #[.pointer (some ⟨gt, 0, none⟩), .pointer (some ⟨gn, 0, none⟩)]]) (t := 95) (m := 3) (c := 3) ?hr ?_; (case hd => rfl); (case hg => rfl); (case hr => first | (go_simp; done) | (go_simp; rfl)); intro gq hg w_ hbox hb; have BKq := a_ (hbox); have Nn : Aside0 (w_.heap[gn]? = some (.cells #[.string nm] 9 (0, 0))) := ⟨blk_below (bk_ BKn) hb⟩; have Ny : Aside0 (w_.heap[gy]? = some (.cells #[.string dt] 9 (0, 0))) := ⟨blk_below (bk_ BKy) hb⟩; have Nt : Aside0 (w_.heap[gt]? = some (.cells #[.string (nm ++ (⟨#[46, 116, 109, 112]⟩ : ByteArray))] 9 (0, 0))) := ⟨blk_below (bk_ BKt) hb⟩; have Nr : Aside0 (w_.heap[gr]? = some (.cells #[.slice none 0 0, .bool false, .int .i64 0] 24 (0, 0))) := ⟨blk_below (bk_ BKr) hb⟩; clear BKn BKy BKt BKr; have BKn := Nn; have BKy := Ny; have BKt := Nt; have BKr := Nr; clear Nn Ny Nt Nr;  replace HB := hB_ (bl_5 HB GEa GEn GEy GEr GEt) hb; clear hb hbox hg) | ((with_reducible refine gk_ 68 ?_); refine gl_ (some 39) Try.func68 #[.agg #[.slice A0_0 l0_0.length c0_0, .bool a0_1, .int .i64 a0_2], .slice (some ⟨gq, 0, none⟩) 3 3] ?_; (with_reducible refine (hard_all.calls k gq gt gy gn _ _ l0_0 a0_1 a0_2 (nm ++ (⟨#[46, 116, 109, 112]⟩ : ByteArray)) nm dt r1 r2 r3 r4 _ ?hq ?ht ?hd ?hn ?side1 ?side2 A3.out).mono ?_); (case hq => exact bk_ BKq); (case ht => exact bk_ BKt); (case hd => exact bk_ BKy); (case hn => exact bk_ BKn); (case side1 => exact cl_ (Kd.C_below HR0_0.out HB.out)); (case side2 => exact HC0_0.out); rintro e w9 ⟨v9, rfl, ho0, hb⟩; refine ⟨_, rfl, ?_⟩; have HOz := a_ (Kd.R_lower ho0 (below_size (bl_5 HB GEa GEn GEy GEr GEt))); replace BKr := bB_ BKr hb; replace HB := hB_ (bl_5 HB GEa GEn GEy GEr GEt) hb; clear hb ho0; obtain ⟨Az, cz, ez⟩ := Kd.R_slice HOz.out; subst ez; obtain ⟨hczq_0, hczq_1, hczq_2, hfzq_0, hfzq_1, hfzq_2⟩ := c3_ BKr))
   refine bodyPost_ret (results_ct rfl _ _ gr 24 #[.slice Az r1.length cz, .bool r2, .int .i64 r3] (0, 0) _ rfl (bp_0 BKr) Try.underlying24 rfl (by kernel_rfl)) rfl ?_
   exact ⟨_, fz_, by refine rq_ ?_; exact Kd.R_mono (Kd.R_far (p := ⟨gr, 2, none⟩) (Kd.R_far (p := ⟨gr, 1, none⟩) (Kd.R_far (p := ⟨gr, 0, none⟩) (Kd.R_types HOz.out BKr.out (by decide)) (fun _ hk => hk.2) _) (fun _ hk => hk.2) _) (fun _ hk => hk.2) _) (fun _ hk => trivial), bl_5 HB GEa GEn GEy GEr GEt⟩
  case pos =>
   replace H : ((disk_Drop.f k l0_0 a0_1 a0_2 (nm ++ (⟨#[46, 116, 109, 112]⟩ : ByteArray))).bind fun x => if x.2.2.2 = 0 then hard_all.f k (nm ++ (⟨#[46, 116, 109, 112]⟩ : ByteArray)) nm dt x.1 x.2.1 x.2.2.1 else some (x.1, x.2.1, x.2.2.1, x.2.2.2)) = some (r1, r2, r3, r4) := by rw [if_pos c4] at H; exact H
   have c4b0 : (t2 == 0) = true := beq_iff_eq.mpr c4
   have c4b1 : (t2 != 0) = false := bne_eq_false_iff_eq.mpr c4
   clear c4
   obtain ⟨⟨x1, x2, x3, x4⟩, A20, H⟩ := Option.bind_eq_some_iff.mp H
   have A2 := a_ A20
   clear A20
   try dsimp only at H
   by_cases c5 : x4 = 0
   case neg =>
    have c5b0 : (x4 == 0) = false := beq_eq_false_iff_ne.mpr c5
    have c5b1 : (x4 != 0) = true := bne_iff_ne.mpr c5
    rw [if_neg c5] at H
    clear c5
    simp only [Option.some.injEq, Prod.mk.injEq] at H
    obtain ⟨rfl, rfl, rfl, rfl⟩ := H
    go_enter Try.func45, Try.ntmps45
    go_wp2_with (first | ((with_reducible refine gd_ 3 ?_); refine bx_ 3 #[.slice A0_0 l0_0.length c0_0, .bool a0_1, .int .i64 a0_2] 24 ?_; intro ga hg w_ hbox hb; have BKa := a_ (hbox); have GEa := a_ (bs_0 hg HB ); replace HB := hB_ (bl_ HB) hb; clear hb hbox hg) | ((with_reducible refine gd_ 4 ?_); refine bx_ 4 #[.string nm] 9 ?_; intro gn hg w_ hbox hb; have BKn := a_ (hbox); have GEn := a_ (bs_1 hg HB GEa); have NBn_a := nC_ hg BKa; replace BKa := bB_ BKa hb; replace HB := hB_ (bl_1 HB GEa) hb; clear hb hbox hg) | ((with_reducible refine gd_ 5 ?_); refine bx_ 5 #[.string dt] 9 ?_; intro gy hg w_ hbox hb; have BKy := a_ (hbox); have GEy := a_ (bs_2 hg HB GEa GEn); have NBy_a := nC_ hg BKa; replace BKa := bB_ BKa hb; replace BKn := bB_ BKn hb; replace HB := hB_ (bl_2 HB GEa GEn) hb; clear hb hbox hg) | ((with_reducible refine gd_ 6 ?_); refine bx_ 6 #[.slice none 0 0, .bool false, .int .i64 0] 24 ?_; intro gr hg w_ hbox hb; have BKr := a_ (hbox); have GEr := a_ (bs_3 hg HB GEa GEn GEy); have NBr_a := nC_ hg BKa; replace BKa := bB_ BKa hb; replace BKn := bB_ BKn hb; replace BKy := bB_ BKy hb; replace HB := hB_ (bl_3 HB GEa GEn GEy) hb; clear hb hbox hg; obtain ⟨hczn, hfzn⟩ := c1_ BKn) | ((with_reducible refine gd_ 8 ?_); refine bx_ 8 #[.string (⟨#[]⟩ : ByteArray)] 9 ?_; intro gt hg w_ hbox hb; have BKt := a_ (hbox); have GEt := a_ (bs_4 hg HB GEa GEn GEy GEr); have NBa_t := nB_ hg BKa; have NBt_a := nC_ hg BKa; have NBn_t := nB_ hg BKn; have NBt_n := nC_ hg BKn; have NBy_t := nB_ hg BKy; have NBt_y := nC_ hg BKy; have NBr_t := nB_ hg BKr; have NBt_r := nC_ hg BKr; replace BKa := bB_ BKa hb; replace BKn := bB_ BKn hb; replace BKy := bB_ BKy hb; replace BKr := bB_ BKr hb; replace HB := hB_ (bl_4 HB GEa GEn GEy GEr) hb; clear hb hbox hg; have hna1 := NBa_t.out; have hna2 := NBt_a.out; have hnn1 := NBn_t.out; have hnn2 := NBt_n.out; have hny1 := NBy_t.out; have hny2 := NBt_y.out; have hnr1 := NBr_t.out; have hnr2 := NBt_r.out; obtain ⟨hczt, hfzt⟩ := c1_ BKt; obtain ⟨hcza_0, hcza_1, hcza_2, hfza_0, hfza_1, hfza_2⟩ := c3_ BKa) | ((with_reducible refine gk_ 24 ?_); refine gl_ (some 18) Try.func24 #[.agg #[.slice A0_0 l0_0.length c0_0, .bool a0_1, .int .i64 a0_2], .string (nm ++ (⟨#[46, 116, 109, 112]⟩ : ByteArray))] ?_; (with_reducible refine (disk_Read.calls k _ _ l0_0 a0_1 a0_2 (nm ++ (⟨#[46, 116, 109, 112]⟩ : ByteArray)) t1 t2 _ ?side1 ?side2 A1.out).mono ?_); (case side1 => exact Kd.C_below HR0_0.out (bl_5 HB GEa GEn GEy GEr GEt)); (case side2 => exact HC0_0.out); rintro e w9 ⟨rfl, hb⟩; refine ⟨_, rfl, ?_⟩; have Na : Aside0 (w9.heap[ga]? = some (.cells #[.slice A0_0 l0_0.length c0_0, .bool a0_1, .int .i64 a0_2] 24 (0, 0))) := ⟨blk_below (bp_1 BKa NBa_t) hb⟩; have Nn : Aside0 (w9.heap[gn]? = some (.cells #[.string nm] 9 (0, 0))) := ⟨blk_below (bp_1 BKn NBn_t) hb⟩; have Ny : Aside0 (w9.heap[gy]? = some (.cells #[.string dt] 9 (0, 0))) := ⟨blk_below (bp_1 BKy NBy_t) hb⟩; have Nr : Aside0 (w9.heap[gr]? = some (.cells #[.slice none 0 0, .bool false, .int .i64 0] 24 (0, 0))) := ⟨blk_below (bp_1 BKr NBr_t) hb⟩; have Nt : Aside0 (w9.heap[gt]? = some (.cells #[.string (nm ++ (⟨#[46, 116, 109, 112]⟩ : ByteArray))] 9 (0, 0))) := ⟨blk_below (bp_0 BKt) hb⟩; clear BKa BKn BKy BKr BKt; have BKa := Na; have BKn := Nn; have BKy := Ny; have BKr := Nr; have BKt := Nt; clear Na Nn Ny Nr Nt; replace HB := hB_ (bl_5 HB GEa GEn GEy GEr GEt) hb; clear hb; obtain ⟨hczb_0, hczb_1, hczb_2, hfzb_0, hfzb_1, hfzb_2⟩ := c3_ BKa; obtain ⟨hczt2, hfzt2⟩ := c1_ BKt) | ((with_reducible refine gk_ 67 ?_); refine gl_ (some 26) Try.func67 #[.agg #[.slice A0_0 l0_0.length c0_0, .bool a0_1, .int .i64 a0_2], .string (nm ++ (⟨#[46, 116, 109, 112]⟩ : ByteArray))] ?_; (with_reducible refine (disk_Drop.calls k _ _ l0_0 a0_1 a0_2 (nm ++ (⟨#[46, 116, 109, 112]⟩ : ByteArray)) x1 x2 x3 x4 _ ?side1 ?side2 A2.out).mono ?_); (case side1 => exact cl_ (Kd.C_below HR0_0.out HB.out)); (case side2 => exact HC0_0.out); rintro e w9 ⟨v9, rfl, ho0, hb⟩; refine ⟨_, rfl, ?_⟩; have HO9 := a_ (Kd.R_lower ho0 (below_size (bl_5 HB GEa GEn GEy GEr GEt))); replace BKa := bB_ BKa hb; replace BKn := bB_ BKn hb; replace BKy := bB_ BKy hb; replace BKr := bB_ BKr hb; replace BKt := bB_ BKt hb; replace HB := hB_ (bl_5 HB GEa GEn GEy GEr GEt) hb; clear hb ho0; obtain ⟨A9, c9, e9⟩ := Kd.R_slice HO9.out; subst e9) | ((with_reducible refine gd_ 11 ?_); refine bx_ 11 #[.slice none 0 0, .bool false, .int .i64 0] 24 ?_; intro gc hg w_ hbox hb; have BKc := a_ (hbox); have GEc := a_ (bs_5 hg HB GEa GEn GEy GEr GEt); have NBa_c := nB_ hg BKa; have NBc_a := nC_ hg BKa; have NBn_c := nB_ hg BKn; have NBc_n := nC_ hg BKn; have NBy_c := nB_ hg BKy; have NBc_y := nC_ hg BKy; have NBr_c := nB_ hg BKr; have NBc_r := nC_ hg BKr; have NBt_c := nB_ hg BKt; have NBc_t := nC_ hg BKt; replace BKa := bB_ BKa hb; replace BKn := bB_ BKn hb; replace BKy := bB_ BKy hb; replace BKr := bB_ BKr hb; replace BKt := bB_ BKt hb; replace HO9 := a_ (Kd.R_below (by refine rq_ ?_; exact HO9.out) hb); replace HB := hB_ (bl_5 HB GEa GEn GEy GEr GEt) hb; clear hb hbox hg; have hma1 := NBa_c.out; have hma2 := NBc_a.out; have hmn1 := NBn_c.out; have hmn2 := NBc_n.out; have hmy1 := NBy_c.out; have hmy2 := NBc_y.out; have hmr1 := NBr_c.out; have hmr2 := NBc_r.out; have hmt1 := NBt_c.out; have hmt2 := NBc_t.out; obtain ⟨hczc_0, hczc_1, hczc_2, hfzc_0, hfzc_1, hfzc_2⟩ := c3_ BKc; obtain ⟨hczd_0, hczd_1, hczd_2, hfzd_0, hfzd_1, hfzd_2⟩ := c3_ BKa; obtain ⟨hcze_0, hcze_1, hcze_2, hfze_0, hfze_1, hfze_2⟩ := c3_ BKr; obtain ⟨hczf, hfzf⟩ := c1_ BKt))
    refine bodyPost_ret (results_ct rfl _ _ gr 24 #[.slice A9 x1.length c9, .bool x2, .int .i64 x3] (0, 0) _ rfl (bp_1 BKr NBr_c) Try.underlying24 rfl (by kernel_rfl)) rfl ?_
    exact ⟨_, fz_, by refine rq_ ?_; exact Kd.R_mono (Kd.R_far (p := ⟨gr, 2, none⟩) (Kd.R_far (p := ⟨gr, 1, none⟩) (Kd.R_far (p := ⟨gr, 0, none⟩) (Kd.R_far (p := ⟨gc, 2, none⟩) (Kd.R_far (p := ⟨gc, 1, none⟩) (Kd.R_far (p := ⟨gc, 0, none⟩) (Kd.R_types (Kd.R_types HO9.out BKr.out (by decide)) BKc.out (by decide)) (fun _ hk => hk.2) _) (fun _ hk => hk.2) _) (fun _ hk => hk.2) _) (fun _ hk => hk.1.2) _) (fun _ hk => hk.1.2) _) (fun _ hk => hk.1.2) _) (fun _ hk => trivial), bl_6 HB GEa GEn GEy GEr GEt GEc⟩
   case pos =>
    have c5b0 : (x4 == 0) = true := beq_iff_eq.mpr c5
    have c5b1 : (x4 != 0) = false := bne_eq_false_iff_eq.mpr c5
    rw [if_pos c5] at H
    clear c5
    have A3 := a_ H
    clear H
    go_enter Try.func45, Try.ntmps45
    go_wp2_with (first | ((with_reducible refine gd_ 3 ?_); refine bx_ 3 #[.slice A0_0 l0_0.length c0_0, .bool a0_1, .int .i64 a0_2] 24 ?_; intro ga hg w_ hbox hb; have BKa := a_ (hbox); have GEa := a_ (bs_0 hg HB ); replace HB := hB_ (bl_ HB) hb; clear hb hbox hg) | ((with_reducible refine gd_ 4 ?_); refine bx_ 4 #[.string nm] 9 ?_; intro gn hg w_ hbox hb; have BKn := a_ (hbox); have GEn := a_ (bs_1 hg HB GEa); have NBn_a := nC_ hg BKa; replace BKa := bB_ BKa hb; replace HB := hB_ (bl_1 HB GEa) hb; clear hb hbox hg) | ((with_reducible refine gd_ 5 ?_); refine bx_ 5 #[.string dt] 9 ?_; intro gy hg w_ hbox hb; have BKy := a_ (hbox); have GEy := a_ (bs_2 hg HB GEa GEn); have NBy_a := nC_ hg BKa; replace BKa := bB_ BKa hb; replace BKn := bB_ BKn hb; replace HB := hB_ (bl_2 HB GEa GEn) hb; clear hb hbox hg) | ((with_reducible refine gd_ 6 ?_); refine bx_ 6 #[.slice none 0 0, .bool false, .int .i64 0] 24 ?_; intro gr hg w_ hbox hb; have BKr := a_ (hbox); have GEr := a_ (bs_3 hg HB GEa GEn GEy); have NBr_a := nC_ hg BKa; replace BKa := bB_ BKa hb; replace BKn := bB_ BKn hb; replace BKy := bB_ BKy hb; replace HB := hB_ (bl_3 HB GEa GEn GEy) hb; clear hb hbox hg; obtain ⟨hczn, hfzn⟩ := c1_ BKn) | ((with_reducible refine gd_ 8 ?_); refine bx_ 8 #[.string (⟨#[]⟩ : ByteArray)] 9 ?_; intro gt hg w_ hbox hb; have BKt := a_ (hbox); have GEt := a_ (bs_4 hg HB GEa GEn GEy GEr); have NBa_t := nB_ hg BKa; have NBt_a := nC_ hg BKa; have NBn_t := nB_ hg BKn; have NBt_n := nC_ hg BKn; have NBy_t := nB_ hg BKy; have NBt_y := nC_ hg BKy; have NBr_t := nB_ hg BKr; have NBt_r := nC_ hg BKr; replace BKa := bB_ BKa hb; replace BKn := bB_ BKn hb; replace BKy := bB_ BKy hb; replace BKr := bB_ BKr hb; replace HB := hB_ (bl_4 HB GEa GEn GEy GEr) hb; clear hb hbox hg; have hna1 := NBa_t.out; have hna2 := NBt_a.out; have hnn1 := NBn_t.out; have hnn2 := NBt_n.out; have hny1 := NBy_t.out; have hny2 := NBt_y.out; have hnr1 := NBr_t.out; have hnr2 := NBt_r.out; obtain ⟨hczt, hfzt⟩ := c1_ BKt; obtain ⟨hcza_0, hcza_1, hcza_2, hfza_0, hfza_1, hfza_2⟩ := c3_ BKa) | ((with_reducible refine gk_ 24 ?_); refine gl_ (some 18) Try.func24 #[.agg #[.slice A0_0 l0_0.length c0_0, .bool a0_1, .int .i64 a0_2], .string (nm ++ (⟨#[46, 116, 109, 112]⟩ : ByteArray))] ?_; (with_reducible refine (disk_Read.calls k _ _ l0_0 a0_1 a0_2 (nm ++ (⟨#[46, 116, 109, 112]⟩ : ByteArray)) t1 t2 _ ?side1 ?side2 A1.out).mono ?_); (case side1 => exact Kd.C_below HR0_0.out (bl_5 HB GEa GEn GEy GEr GEt)); (case side2 => exact HC0_0.out); rintro e w9 ⟨rfl, hb⟩; refine ⟨_, rfl, ?_⟩; have Na : Aside0 (w9.heap[ga]? = some (.cells #[.slice A0_0 l0_0.length c0_0, .bool a0_1, .int .i64 a0_2] 24 (0, 0))) := ⟨blk_below (bp_1 BKa NBa_t) hb⟩; have Nn : Aside0 (w9.heap[gn]? = some (.cells #[.string nm] 9 (0, 0))) := ⟨blk_below (bp_1 BKn NBn_t) hb⟩; have Ny : Aside0 (w9.heap[gy]? = some (.cells #[.string dt] 9 (0, 0))) := ⟨blk_below (bp_1 BKy NBy_t) hb⟩; have Nr : Aside0 (w9.heap[gr]? = some (.cells #[.slice none 0 0, .bool false, .int .i64 0] 24 (0, 0))) := ⟨blk_below (bp_1 BKr NBr_t) hb⟩; have Nt : Aside0 (w9.heap[gt]? = some (.cells #[.string (nm ++ (⟨#[46, 116, 109, 112]⟩ : ByteArray))] 9 (0, 0))) := ⟨blk_below (bp_0 BKt) hb⟩; clear BKa BKn BKy BKr BKt; have BKa := Na; have BKn := Nn; have BKy := Ny; have BKr := Nr; have BKt := Nt; clear Na Nn Ny Nr Nt; replace HB := hB_ (bl_5 HB GEa GEn GEy GEr GEt) hb; clear hb; obtain ⟨hczb_0, hczb_1, hczb_2, hfzb_0, hfzb_1, hfzb_2⟩ := c3_ BKa; obtain ⟨hczt2, hfzt2⟩ := c1_ BKt) | ((with_reducible refine gk_ 67 ?_); refine gl_ (some 26) Try.func67 #[.agg #[.slice A0_0 l0_0.length c0_0, .bool a0_1, .int .i64 a0_2], .string (nm ++ (⟨#[46, 116, 109, 112]⟩ : ByteArray))] ?_; (with_reducible refine (disk_Drop.calls k _ _ l0_0 a0_1 a0_2 (nm ++ (⟨#[46, 116, 109, 112]⟩ : ByteArray)) x1 x2 x3 x4 _ ?side1 ?side2 A2.out).mono ?_); (case side1 => exact cl_ (Kd.C_below HR0_0.out HB.out)); (case side2 => exact HC0_0.out); rintro e w9 ⟨v9, rfl, ho0, hb⟩; refine ⟨_, rfl, ?_⟩; have HO9 := a_ (Kd.R_lower ho0 (below_size (bl_5 HB GEa GEn GEy GEr GEt))); replace BKa := bB_ BKa hb; replace BKn := bB_ BKn hb; replace BKy := bB_ BKy hb; replace BKr := bB_ BKr hb; replace BKt := bB_ BKt hb; replace HB := hB_ (bl_5 HB GEa GEn GEy GEr GEt) hb; clear hb ho0; obtain ⟨A9, c9, e9⟩ := Kd.R_slice HO9.out; subst e9) | ((with_reducible refine gd_ 11 ?_); refine bx_ 11 #[.slice none 0 0, .bool false, .int .i64 0] 24 ?_; intro gc hg w_ hbox hb; have BKc := a_ (hbox); have GEc := a_ (bs_5 hg HB GEa GEn GEy GEr GEt); have NBa_c := nB_ hg BKa; have NBc_a := nC_ hg BKa; have NBn_c := nB_ hg BKn; have NBc_n := nC_ hg BKn; have NBy_c := nB_ hg BKy; have NBc_y := nC_ hg BKy; have NBr_c := nB_ hg BKr; have NBc_r := nC_ hg BKr; have NBt_c := nB_ hg BKt; have NBc_t := nC_ hg BKt; replace BKa := bB_ BKa hb; replace BKn := bB_ BKn hb; replace BKy := bB_ BKy hb; replace BKr := bB_ BKr hb; replace BKt := bB_ BKt hb; replace HO9 := a_ (Kd.R_below (by refine rq_ ?_; exact HO9.out) hb); replace HB := hB_ (bl_5 HB GEa GEn GEy GEr GEt) hb; clear hb hbox hg; have hma1 := NBa_c.out; have hma2 := NBc_a.out; have hmn1 := NBn_c.out; have hmn2 := NBc_n.out; have hmy1 := NBy_c.out; have hmy2 := NBc_y.out; have hmr1 := NBr_c.out; have hmr2 := NBc_r.out; have hmt1 := NBt_c.out; have hmt2 := NBc_t.out; obtain ⟨hczc_0, hczc_1, hczc_2, hfzc_0, hfzc_1, hfzc_2⟩ := c3_ BKc; obtain ⟨hczd_0, hczd_1, hczd_2, hfzd_0, hfzd_1, hfzd_2⟩ := c3_ BKa; obtain ⟨hcze_0, hcze_1, hcze_2, hfze_0, hfze_1, hfze_2⟩ := c3_ BKr; obtain ⟨hczf, hfzf⟩ := c1_ BKt) | ((with_reducible refine gd_ 38 ?_); refine slice_event_ ?hg (N := 38) ?hd (cs := #[.func (.func 69) #[] #[.pointer (some ⟨gt, 0, none⟩), .pointer (some ⟨gy, 0, none⟩)], .func (.func 71) #[] #[.pointer (some ⟨gt, 0, none⟩)], .func (.func 73) #[] #[.pointer (some ⟨gt, 0, none⟩), .pointer (some ⟨gn, 0, none⟩)]]) (t := 95) (m := 3) (c := 3) ?hr ?_; (case hd => rfl); (case hg => rfl); (case hr => first | (go_simp; done) | (go_simp; rfl)); intro gq hg w_ hbox hb; have BKq := a_ (hbox); have Nn : Aside0 (w_.heap[gn]? = some (.cells #[.string nm] 9 (0, 0))) := ⟨blk_below (bp_2 BKn NBn_a NBn_c) hb⟩; have Ny : Aside0 (w_.heap[gy]? = some (.cells #[.string dt] 9 (0, 0))) := ⟨blk_below (bp_2 BKy NBy_a NBy_c) hb⟩; have Nt : Aside0 (w_.heap[gt]? = some (.cells #[.string (nm ++ (⟨#[46, 116, 109, 112]⟩ : ByteArray))] 9 (0, 0))) := ⟨blk_below (bp_2 BKt NBt_a NBt_c) hb⟩; have Nr : Aside0 (w_.heap[gr]? = some (.cells #[.slice none 0 0, .bool false, .int .i64 0] 24 (0, 0))) := ⟨blk_below (bp_2 BKr NBr_a NBr_c) hb⟩; clear BKn BKy BKt BKr; have BKn := Nn; have BKy := Ny; have BKt := Nt; have BKr := Nr; clear Nn Ny Nt Nr; replace HO9 := a_ (Kd.R_below (by refine rq_ ?_; exact Kd.R_mono (Kd.R_far (p := ⟨ga, 2, none⟩) (Kd.R_far (p := ⟨ga, 1, none⟩) (Kd.R_far (p := ⟨ga, 0, none⟩) (Kd.R_far (p := ⟨gc, 2, none⟩) (Kd.R_far (p := ⟨gc, 1, none⟩) (Kd.R_far (p := ⟨gc, 0, none⟩) (Kd.R_types (Kd.R_types HO9.out BKa.out (by decide)) BKc.out (by decide)) (fun _ hk => hk.2) _) (fun _ hk => hk.2) _) (fun _ hk => hk.2) _) (fun _ hk => hk.1.2) _) (fun _ hk => hk.1.2) _) (fun _ hk => hk.1.2) _) (fun _ hk => trivial)) hb); replace HB := hB_ (bl_6 HB GEa GEn GEy GEr GEt GEc) hb; clear hb hbox hg) | ((with_reducible refine gk_ 68 ?_); refine gl_ (some 39) Try.func68 #[.agg #[.slice A9 x1.length c9, .bool x2, .int .i64 x3], .slice (some ⟨gq, 0, none⟩) 3 3] ?_; (with_reducible refine (hard_all.calls k gq gt gy gn _ _ x1 x2 x3 (nm ++ (⟨#[46, 116, 109, 112]⟩ : ByteArray)) nm dt r1 r2 r3 r4 _ ?hq ?ht ?hd ?hn ?side1 ?side2 A3.out).mono ?_); (case hq => exact bk_ BKq); (case ht => exact bk_ BKt); (case hd => exact bk_ BKy); (case hn => exact bk_ BKn); (case side1 => exact (Kd.R_reads' HO9.out).2.2); (case side2 => exact (Kd.R_reads' HO9.out).2.1); rintro e w9 ⟨v9, rfl, ho0, hb⟩; refine ⟨_, rfl, ?_⟩; have HOz := a_ (Kd.R_lower ho0 (below_size (bl_6 HB GEa GEn GEy GEr GEt GEc))); replace BKr := bB_ BKr hb; replace HB := hB_ (bl_6 HB GEa GEn GEy GEr GEt GEc) hb; clear hb ho0; obtain ⟨Az, cz, ez⟩ := Kd.R_slice HOz.out; subst ez; obtain ⟨hczq_0, hczq_1, hczq_2, hfzq_0, hfzq_1, hfzq_2⟩ := c3_ BKr))
    refine bodyPost_ret (results_ct rfl _ _ gr 24 #[.slice Az r1.length cz, .bool r2, .int .i64 r3] (0, 0) _ rfl (bp_0 BKr) Try.underlying24 rfl (by kernel_rfl)) rfl ?_
    exact ⟨_, fz_, by refine rq_ ?_; exact Kd.R_mono (Kd.R_far (p := ⟨gr, 2, none⟩) (Kd.R_far (p := ⟨gr, 1, none⟩) (Kd.R_far (p := ⟨gr, 0, none⟩) (Kd.R_types HOz.out BKr.out (by decide)) (fun _ hk => hk.2) _) (fun _ hk => hk.2) _) (fun _ hk => hk.2) _) (fun _ hk => trivial), bl_6 HB GEa GEn GEy GEr GEt GEc⟩

def hard_Save.f (k : Nat) (l0_0 : List (S71)) (a0_1 : Bool) (a0_2 : Int) (a1_0 : Int) (a1_1 : Int) : Option ((List (S71)) × Bool × Int × Int) := (hard_Check.f a1_0 a1_1).bind fun t324 => (if t324 = 0 then ((hard_file.f k a1_0 a1_1).bind fun t325 => ((hard_Put.f k l0_0 a0_1 a0_2 (⟨#[104, 97, 114, 100]⟩ : ByteArray) t325).bind fun bt326 => (some (bt326.1, bt326.2.1, bt326.2.2.1, bt326.2.2.2)))) else ((disk_Check.f k l0_0 a0_1 a0_2).bind fun t332 => (if t332 = 0 then ((some (([] : List (S71)) : List (S71))).bind fun y333 => (if y333.length + l0_0.length < 3518437208883 then (some ((y333 ++ l0_0), a0_1, a0_2, t324)) else (none))) else (some (([] : List (S71)), false, 0, t324)))))
theorem hard_Save.mono : ∀ a0 a1 a2 a3 a4 k, LeO (hard_Save.f k a0 a1 a2 a3 a4) (hard_Save.f (k + 1) a0 a1 a2 a3 a4) := by
 intro a0 a1 a2 a3 a4 k
 unfold hard_Save.f
 repeat' with_reducible first | apply disk_Check.mono | apply hard_Put.mono | apply hard_file.mono | apply LeO.refl | apply LeO.none | apply LeO.ite | refine LeO.bind ?_ (fun _ => ?_)
def hard_Save.T7 : Bool × List (List Nat × List Nat) := (true, [([], []), ([], []), ([1], [1]), ([0, 2, 2], [0, 2]), ([3], [3]), ([3], [3]), ([4, 3, 0, 1, 2, 3, 4, 5], [4]), ([5, 6, 0, 1, 2, 3, 4, 5, 6], [5])])
def hard_Save.B7 : List Nat := [0, 0, 2, 7, 15, 15, 63, 127]
theorem hard_Save.tab7 : rtab .any (opsOf Try.f17 7) = hard_Save.T7 := by kernel_rfl
theorem hard_Save.bits7 : waitsOk hard_Save.T7.2 hard_Save.B7 = true := by kernel_rfl
theorem hard_Save.calls (k : Nat) (A0_0 : Option Addr) (c0_0 : Nat) (l0_0 : List (S71)) (a0_1 : Bool) (a0_2 : Int) (a1_0 : Int) (a1_1 : Int) (r1 : List (S71)) (r2 : Bool) (r3 : Int) (r4 : Int) (w : World) (hr0_0 : Kd.C k71 w A0_0 l0_0.length l0_0) (hc0_0 : l0_0.length ≤ c0_0) (h : hard_Save.f k l0_0 a0_1 a0_2 a1_0 a1_1 = some (r1, r2, r3, r4)) :
  Calls Try.prog 17 #[.agg #[.slice A0_0 l0_0.length c0_0, .bool a0_1, .int .i64 a0_2], .agg #[.int .u64 a1_0, .int .i64 a1_1]] w fun e w' => ∃ v0_ : Value, e = .returned (.tuple #[.agg #[v0_, .bool r2, .int .i64 r3], .int .i64 r4]) ∧ Kd.R k71 71 w' w.heap.size (fun _ => True) v0_ r1 ∧ Below w.heap.size w w' := by
 have hu24 := Try.underlying24
 have hu27 := Try.underlying27
 have HR0_0 := a_ hr0_0
 have HC0_0 := a_ hc0_0
 clear hr0_0 hc0_0
 have HB := a_ (Below.refl w.heap.size w)
 have H : ((hard_Check.f a1_0 a1_1).bind fun t324 => (if t324 = 0 then ((hard_file.f k a1_0 a1_1).bind fun t325 => ((hard_Put.f k l0_0 a0_1 a0_2 (⟨#[104, 97, 114, 100]⟩ : ByteArray) t325).bind fun bt326 => (some (bt326.1, bt326.2.1, bt326.2.2.1, bt326.2.2.2)))) else ((disk_Check.f k l0_0 a0_1 a0_2).bind fun t332 => (if t332 = 0 then ((some (([] : List (S71)) : List (S71))).bind fun y333 => (if y333.length + l0_0.length < 3518437208883 then (some ((y333 ++ l0_0), a0_1, a0_2, t324)) else (none))) else (some (([] : List (S71)), false, 0, t324)))))) = some (r1, r2, r3, r4) := h
 clear h
 obtain ⟨t324, A30, H⟩ := Option.bind_eq_some_iff.mp H
 try dsimp only at H
 have A3 := a_ A30
 clear A30
 by_cases c4 : t324 = 0
 ·rw [if_pos c4] at H
  have c4b0 : (t324 == 0) = true := beq_iff_eq.mpr c4
  have c4b1 : (t324 != 0) = false := bne_eq_false_iff_eq.mpr c4
  clear c4
  obtain ⟨t325, A50, H⟩ := Option.bind_eq_some_iff.mp H
  try dsimp only at H
  have A5 := a_ A50
  clear A50
  obtain ⟨⟨t326, t329, t330, t331⟩, A60, H⟩ := Option.bind_eq_some_iff.mp H
  try dsimp only at H
  have A6 := a_ A60
  clear A60
  simp only [Option.some.injEq, Prod.mk.injEq] at H
  obtain ⟨rfl, rfl, rfl, rfl⟩ := H
  go_enter Try.func17, Try.ntmps17
  try go_wp2_with (first | ((with_reducible refine gd_ 2 ?_); refine bx_ 2 #[.slice A0_0 l0_0.length c0_0, .bool a0_1, .int .i64 a0_2] 24 ?_; intro gb321 hg w7 hbox hb; have BK321 := a_ (hbox); have GE321 := a_ (bs_0 hg HB); replace HB := hB_ (bl_ HB) hb; clear hb hbox hg) | ((with_reducible refine gd_ 3 ?_); refine bx_ 3 #[.int .u64 a1_0, .int .i64 a1_1] 27 ?_; intro gb322 hg w8 hbox hb; have BK322 := a_ (hbox); have GE322 := a_ (bs_1 hg HB GE321); replace HB := hB_ (bl_1 HB GE321) hb; have NB321_322 := nB_ hg BK321; have NB322_321 := nC_ hg BK321; replace BK321 := bB_ BK321 hb; clear hb hbox hg) | ((with_reducible refine gd_ 4 ?_); refine bx_ 4 #[.slice none 0 0, .bool false, .int .i64 0] 24 ?_; intro gb323 hg w9 hbox hb; have BK323 := a_ (hbox); have GE323 := a_ (bs_2 hg HB GE321 GE322); replace HB := hB_ (bl_2 HB GE321 GE322) hb; have NB321_323 := nB_ hg BK321; have NB323_321 := nC_ hg BK321; replace BK321 := bB_ BK321 hb; have NB322_323 := nB_ hg BK322; have NB323_322 := nC_ hg BK322; replace BK322 := bB_ BK322 hb; clear hb hbox hg; have hnb10 := NB322_321.out; have hnc10 := NB321_322.out; have hnb11 := NB322_323.out; have hnc11 := NB323_322.out; obtain ⟨hcz12_0, hcz12_1, hfz12_0, hfz12_1⟩ := c2_ BK322) | ((with_reducible refine gk_ 21 ?_); refine gl_ (some 8) Try.func21 #[.agg #[.int .u64 a1_0, .int .i64 a1_1]] ?_; (with_reducible refine (hard_Check.calls a1_0 a1_1 t324 _ A3.out).mono ?_); rintro e w13 ⟨rfl, hb⟩; refine ⟨_, rfl, ?_⟩; replace BK321 := bB_ BK321 hb; replace BK322 := bB_ BK322 hb; replace BK323 := bB_ BK323 hb; replace HB := hB_ (bl_3 HB GE321 GE322 GE323) hb; (try clear hb)))
  have n0_ := a_ (blk_drew BK321.out)
  have n1_ := a_ (blk_drew BK322.out)
  have n2_ := a_ (blk_drew BK323.out)
  have n3_ := a_ (below_drew1 HB.out)
  clear BK321
  clear BK322
  clear BK323
  clear HB
  have BK321 := n0_
  have BK322 := n1_
  have BK323 := n2_
  have HB := n3_
  clear n0_ n1_ n2_ n3_
  refine start_ (n := 8) (S := fun w' => w'.cell? ⟨gb321, 0, none⟩ = some (.slice A0_0 l0_0.length c0_0) ∧ w'.cell? ⟨gb321, 1, none⟩ = some (.bool a0_1) ∧ w'.cell? ⟨gb321, 2, none⟩ = some (.int .i64 a0_2) ∧ w'.cell? ⟨gb322, 0, none⟩ = some (.int .u64 a1_0) ∧ w'.cell? ⟨gb322, 1, none⟩ = some (.int .i64 a1_1)) (ds := []) #[false, false, false, false, false, false, false, false] (by kernel_rfl) rfl rfl ⟨(blk_cell BK321.out 0).trans rfl, (blk_cell BK321.out 1).trans rfl, (blk_cell BK321.out 2).trans rfl, (blk_cell BK322.out 0).trans rfl, (blk_cell BK322.out 1).trans rfl⟩ (fun hHeld => ?_); refine with_tabW hard_Save.tab7 hard_Save.bits7 (fun HT_ HW_ => ?_)
  generalize w13.drew = w14 at BK321 BK322 BK323 HB hHeld ⊢
  refine take_ (i := 0) (N := some 23) (v := ?_) (a' := ?_) #[true, false, false, false, false, false, false, false] rfl rfl (take_ofW HT_.out HW_.out (by kernel_rfl)) (fun _ _ _ h => h) (Or.inl ⟨by rfl, ?_⟩) hHeld ?_ ?_
  rotate_left
  ·rintro w' ⟨s0, s1, s2, s3, s4⟩
   go_simp
   with_reducible rfl
  rotate_left
  ·exact ap_
  refine take_ (i := 1) (N := some 24) (v := ?_) (a' := ?_) #[true, true, false, false, false, false, false, false] rfl rfl (take_ofW HT_.out HW_.out (by kernel_rfl)) (fun _ _ _ h => h) (Or.inl ⟨by rfl, ?_⟩) hHeld ?_ ?_
  rotate_left
  ·rintro w' ⟨s0, s1, s2, s3, s4⟩
   go_simp
   with_reducible rfl
  rotate_left
  ·exact ap_
  refine one_ (i := 2) (N := some 25) #[true, true, true, false, false, false, false, false] rfl rfl (one_of HT_.out (by kernel_rfl)) (by decide) (fun K hK => ?_)
  refine goes_ Try.func40 (by kernel_rfl) rfl #[.agg #[.int .u64 a1_0, .int .i64 a1_1]] (by rfl) rfl rfl (ar_) ?_
  with_reducible refine (hard_file.calls k a1_0 a1_1 t325 _ A5.out).mono ?_
  rintro e w15 ⟨rfl, hb⟩
  refine ⟨_, rfl, ?_⟩
  have n0_ := bB_ BK321 hb
  have n1_ := bB_ BK322 hb
  have n2_ := bB_ BK323 hb
  have n3_ := hB_ (bl_3 HB GE321 GE322 GE323) hb
  clear BK321
  clear BK322
  clear BK323
  clear HB
  have BK321 := n0_
  have BK322 := n1_
  have BK323 := n2_
  have HB := n3_
  clear n0_ n1_ n2_ n3_
  (try clear hb)
  (try clear hb2)
  (try clear hk)
  (try clear hi)
  refine hK.out _ _ ⟨(blk_cell BK321.out 0).trans rfl, (blk_cell BK321.out 1).trans rfl, (blk_cell BK321.out 2).trans rfl, (blk_cell BK322.out 0).trans rfl, (blk_cell BK322.out 1).trans rfl⟩ (fun hHeld => ?_)
  clear hK K
  refine norm_ (a' := ?_) ?_ ?_
  rotate_left
  ·show Act.put _ (some 25) _ = _
   simp only [Act.put, List.setIfInBounds_toArray, List.set_cons_zero, List.set_cons_succ, i64_w, i32_w]
   rfl
  refine one_ (i := 3) (N := some 26) #[true, true, true, true, false, false, false, false] rfl rfl (one_of HT_.out (by kernel_rfl)) (by decide) (fun K hK => ?_)
  refine goes_ Try.func45 (by kernel_rfl) rfl #[.agg #[.slice A0_0 l0_0.length c0_0, .bool a0_1, .int .i64 a0_2], .string (⟨#[104, 97, 114, 100]⟩ : ByteArray), .string t325] (by rfl) rfl rfl (ar_) ?_
  with_reducible refine (hard_Put.calls k _ _ l0_0 a0_1 a0_2 (⟨#[104, 97, 114, 100]⟩ : ByteArray) t325 t326 t329 t330 t331 _ ?side1 ?side2 A6.out).mono ?_
  (case side1 => exact cl_ (Kd.C_below HR0_0.out HB.out))
  (case side2 => exact HC0_0.out)
  rintro e w16 ⟨v327, rfl, ho0, hb⟩
  refine ⟨_, rfl, ?_⟩
  have n0_ := a_ (Kd.R_lower ho0 (below_size (bl_3 HB GE321 GE322 GE323)))
  have n1_ := bB_ BK321 hb
  have n2_ := bB_ BK322 hb
  have n3_ := bB_ BK323 hb
  have n4_ := hB_ (bl_3 HB GE321 GE322 GE323) hb
  clear BK321
  clear BK322
  clear BK323
  clear HB
  have HO328 := n0_
  have BK321 := n1_
  have BK322 := n2_
  have BK323 := n3_
  have HB := n4_
  clear n0_ n1_ n2_ n3_ n4_
  (try clear hb)
  (try clear hb2)
  (try clear hk)
  (try clear hi)
  (try clear ho0)
  obtain ⟨Ao17, co17, eo17⟩ := Kd.R_slice HO328.out
  (first | subst eo17 | (injection eo17 with f1_ f2_ f3_; have f4_ := f1_.symm; have f5_ := f3_.symm; clear f1_ f2_ f3_; subst f4_; subst f5_))
  refine hK.out _ _ ⟨(blk_cell BK321.out 0).trans rfl, (blk_cell BK321.out 1).trans rfl, (blk_cell BK321.out 2).trans rfl, (blk_cell BK322.out 0).trans rfl, (blk_cell BK322.out 1).trans rfl⟩ (fun hHeld => ?_)
  clear hK K
  refine norm_ (a' := ?_) ?_ ?_
  rotate_left
  ·show Act.put _ (some 26) _ = _
   simp only [Act.put, List.setIfInBounds_toArray, List.set_cons_zero, List.set_cons_succ, i64_w, i32_w]
   rfl
  refine pu_ HT_ 4 (some 27) ?_
  refine pu_ HT_ 5 (some 28) ?_
  refine one_ (i := 6) (N := none) #[true, true, true, true, true, true, true, false] rfl rfl (one_of HT_.out (by kernel_rfl)) (by decide) (fun K hK => ?_)
  have hs18 : w16.cell? ⟨gb323, 0, none⟩ = some (.slice none 0 0) := (blk_cell BK323.out 0).trans rfl
  have hfs18 := blk_frozen BK323.out 0
  have hns18_0 := NB321_323.out
  have hns18_1 := NB322_323.out
  have hms18_0 := NB323_321.out
  have hms18_1 := NB323_322.out
  have hs19 : w16.cell? ⟨gb323, 1, none⟩ = some (.bool false) := (blk_cell BK323.out 1).trans rfl
  have hfs19 := blk_frozen BK323.out 1
  have hns19_0 := NB321_323.out
  have hns19_1 := NB322_323.out
  have hms19_0 := NB323_321.out
  have hms19_1 := NB323_322.out
  have hs20 : w16.cell? ⟨gb323, 2, none⟩ = some (.int .i64 0) := (blk_cell BK323.out 2).trans rfl
  have hfs20 := blk_frozen BK323.out 2
  have hns20_0 := NB321_323.out
  have hns20_1 := NB322_323.out
  have hms20_0 := NB323_321.out
  have hms20_1 := NB323_322.out
  refine skip_ (w1 := ?_) (by rfl) rfl ?_ ?_
  rotate_left
  ·go_simp
   rfl
  refine hK.out _ _ ⟨((cell_far (p := ⟨gb323, _, none⟩) NB321_323.out _).trans (((cell_far (p := ⟨gb323, _, none⟩) NB321_323.out _).trans (((cell_far (p := ⟨gb323, _, none⟩) NB321_323.out _).trans (hHeld.1)))))), ((cell_far (p := ⟨gb323, _, none⟩) NB321_323.out _).trans (((cell_far (p := ⟨gb323, _, none⟩) NB321_323.out _).trans (((cell_far (p := ⟨gb323, _, none⟩) NB321_323.out _).trans (hHeld.2.1)))))), ((cell_far (p := ⟨gb323, _, none⟩) NB321_323.out _).trans (((cell_far (p := ⟨gb323, _, none⟩) NB321_323.out _).trans (((cell_far (p := ⟨gb323, _, none⟩) NB321_323.out _).trans (hHeld.2.2.1)))))), ((cell_far (p := ⟨gb323, _, none⟩) NB322_323.out _).trans (((cell_far (p := ⟨gb323, _, none⟩) NB322_323.out _).trans (((cell_far (p := ⟨gb323, _, none⟩) NB322_323.out _).trans (hHeld.2.2.2.1)))))), ((cell_far (p := ⟨gb323, _, none⟩) NB322_323.out _).trans (((cell_far (p := ⟨gb323, _, none⟩) NB322_323.out _).trans (((cell_far (p := ⟨gb323, _, none⟩) NB322_323.out _).trans (hHeld.2.2.2.2))))))⟩ (fun hHeld => ?_)
  clear hK K
  refine pu_ HT_ 7 (some 5) ?_
  refine done_ (done_of HT_.out (by kernel_rfl)) ?_
  try go_wp2
  refine bodyPost_ret (results_ct rfl _ _ gb323 24 #[.slice Ao17 t326.length co17, .bool t329, .int .i64 t330] (0, 0) _ rfl (bp_0 BK323) Try.underlying24 rfl (by kernel_rfl)) rfl ?_
  exact ⟨_, fz_, by refine rq_ ?_; exact Kd.R_mono (Kd.R_far (p := ⟨gb323, 2, none⟩) (Kd.R_far (p := ⟨gb323, 1, none⟩) (Kd.R_far (p := ⟨gb323, 0, none⟩) (Kd.R_types HO328.out BK323.out (by decide)) (fun _ hk => hk.2) (.slice Ao17 t326.length co17)) (fun _ hk => hk.2) (.bool t329)) (fun _ hk => hk.2) (.int .i64 t330)) (fun _ hk => trivial), bl_3 HB GE321 GE322 GE323⟩
 rw [if_neg c4] at H
 have c4b0 : (t324 == 0) = false := beq_eq_false_iff_ne.mpr c4
 have c4b1 : (t324 != 0) = true := bne_iff_ne.mpr c4
 obtain ⟨t332, A210, H⟩ := Option.bind_eq_some_iff.mp H
 try dsimp only at H
 have A21 := a_ A210
 clear A210
 by_cases c22 : t332 = 0
 rotate_left
 ·rw [if_neg c22] at H
  have c22b0 : (t332 == 0) = false := beq_eq_false_iff_ne.mpr c22
  have c22b1 : (t332 != 0) = true := bne_iff_ne.mpr c22
  simp only [Option.some.injEq, Prod.mk.injEq] at H
  obtain ⟨rfl, rfl, rfl, rfl⟩ := H
  go_enter Try.func17, Try.ntmps17
  go_wp2_with (first | ((with_reducible refine gd_ 2 ?_); refine bx_ 2 #[.slice A0_0 l0_0.length c0_0, .bool a0_1, .int .i64 a0_2] 24 ?_; intro gb321 hg w41 hbox hb; have BK321 := a_ (hbox); have GE321 := a_ (bs_0 hg HB); replace HB := hB_ (bl_ HB) hb; clear hb hbox hg) | ((with_reducible refine gd_ 3 ?_); refine bx_ 3 #[.int .u64 a1_0, .int .i64 a1_1] 27 ?_; intro gb322 hg w42 hbox hb; have BK322 := a_ (hbox); have GE322 := a_ (bs_1 hg HB GE321); replace HB := hB_ (bl_1 HB GE321) hb; have NB321_322 := nB_ hg BK321; have NB322_321 := nC_ hg BK321; replace BK321 := bB_ BK321 hb; clear hb hbox hg) | ((with_reducible refine gd_ 4 ?_); refine bx_ 4 #[.slice none 0 0, .bool false, .int .i64 0] 24 ?_; intro gb323 hg w43 hbox hb; have BK323 := a_ (hbox); have GE323 := a_ (bs_2 hg HB GE321 GE322); replace HB := hB_ (bl_2 HB GE321 GE322) hb; have NB321_323 := nB_ hg BK321; have NB323_321 := nC_ hg BK321; replace BK321 := bB_ BK321 hb; have NB322_323 := nB_ hg BK322; have NB323_322 := nC_ hg BK322; replace BK322 := bB_ BK322 hb; clear hb hbox hg; have hnb44 := NB322_321.out; have hnc44 := NB321_322.out; have hnb45 := NB322_323.out; have hnc45 := NB323_322.out; obtain ⟨hcz46_0, hcz46_1, hfz46_0, hfz46_1⟩ := c2_ BK322) | ((with_reducible refine gk_ 21 ?_); refine gl_ (some 8) Try.func21 #[.agg #[.int .u64 a1_0, .int .i64 a1_1]] ?_; (with_reducible refine (hard_Check.calls a1_0 a1_1 t324 _ A3.out).mono ?_); rintro e w47 ⟨rfl, hb⟩; refine ⟨_, rfl, ?_⟩; replace BK321 := bB_ BK321 hb; replace BK322 := bB_ BK322 hb; replace BK323 := bB_ BK323 hb; replace HB := hB_ (bl_3 HB GE321 GE322 GE323) hb; (try clear hb); have hnb48 := NB321_323.out; have hnc48 := NB323_321.out; obtain ⟨hcz49_0, hcz49_1, hcz49_2, hfz49_0, hfz49_1, hfz49_2⟩ := c3_ BK321) | ((with_reducible refine gk_ 37 ?_); refine gl_ (some 12) Try.func37 #[.agg #[.slice A0_0 l0_0.length c0_0, .bool a0_1, .int .i64 a0_2]] ?_; (with_reducible refine (disk_Check.calls k _ _ l0_0 a0_1 a0_2 t332 _ ?side1 ?side2 A21.out).mono ?_); (case side1 => exact cl_ (Kd.C_below HR0_0.out HB.out)); (case side2 => exact HC0_0.out); rintro e w50 ⟨rfl, hb⟩; refine ⟨_, rfl, ?_⟩; replace BK321 := bB_ BK321 hb; replace BK322 := bB_ BK322 hb; replace BK323 := bB_ BK323 hb; replace HB := hB_ (bl_3 HB GE321 GE322 GE323) hb; (try clear hb); obtain ⟨hcz51_0, hcz51_1, hcz51_2, hfz51_0, hfz51_1, hfz51_2⟩ := c3_ BK323))
  refine bodyPost_ret (results_ct rfl _ _ gb323 24 #[.slice none 0 0, .bool false, .int .i64 0] (0, 0) _ rfl (bp_0 BK323) Try.underlying24 rfl (by kernel_rfl)) rfl ?_
  exact ⟨_, fz_, by first | exact Kd.R_nil _ _ _ _ _ | exact Kd.N_nil _ _ _ _ _ | exact Kd.V_nil _ _ _ _ _ | exact Kd.Q_nil _ _ _ _ _ | exact Kd.S_nil _ _ _ _ _, bl_3 HB GE321 GE322 GE323⟩


 rw [if_pos c22] at H
 have c22b0 : (t332 == 0) = true := beq_iff_eq.mpr c22
 have c22b1 : (t332 != 0) = false := bne_eq_false_iff_eq.mpr c22
 clear c22
 obtain ⟨y333, hy333⟩ : ∃ y_ : List (S71), y_ = (([] : List (S71))) := ⟨_, rfl⟩
 replace H : (if y333.length + l0_0.length < 3518437208883 then (some ((y333 ++ l0_0), a0_1, a0_2, t324)) else (none)) = some (r1, r2, r3, r4) := by first | (rw [hy333]; with_reducible exact H) | (have H2_ := (Option.bind_some _ _).symm.trans H; rw [hy333]; with_reducible exact H2_) | (have H2_ := (Option.bind_some _ _).symm.trans H; with_reducible exact H2_) | with_reducible exact H | (rw [hy333]; exact H) | exact H
 have Ny333 := a_ hy333
 clear hy333
 by_cases c23 : y333.length + l0_0.length < 3518437208883
 rotate_left
 ·rw [if_neg c23] at H
  exact absurd H (by simp)
 rw [if_pos c23] at H
 have LMc23 := a_ c23
 clear c23
 obtain ⟨y336, hy336⟩ : ∃ y_ : List (S71), y_ = (y333 ++ l0_0) := ⟨_, rfl⟩
 replace H : (some (y336, a0_1, a0_2, t324)) = some (r1, r2, r3, r4) := by first | (rw [hy336]; with_reducible exact H) | (have H2_ := (Option.bind_some _ _).symm.trans H; rw [hy336]; with_reducible exact H2_) | (have H2_ := (Option.bind_some _ _).symm.trans H; with_reducible exact H2_) | with_reducible exact H | (rw [hy336]; exact H) | exact H
 have Ny336 := a_ hy336
 clear hy336
 simp only [Option.some.injEq, Prod.mk.injEq] at H
 obtain ⟨rfl, rfl, rfl, rfl⟩ := H
 go_enter Try.func17, Try.ntmps17
 go_wp2_with (first | ((with_reducible refine gd_ 2 ?_); refine bx_ 2 #[.slice A0_0 l0_0.length c0_0, .bool a0_1, .int .i64 a0_2] 24 ?_; intro gb321 hg w24 hbox hb; have BK321 := a_ (hbox); have GE321 := a_ (bs_0 hg HB); replace HB := hB_ (bl_ HB) hb; clear hb hbox hg) | ((with_reducible refine gd_ 3 ?_); refine bx_ 3 #[.int .u64 a1_0, .int .i64 a1_1] 27 ?_; intro gb322 hg w25 hbox hb; have BK322 := a_ (hbox); have GE322 := a_ (bs_1 hg HB GE321); replace HB := hB_ (bl_1 HB GE321) hb; have NB321_322 := nB_ hg BK321; have NB322_321 := nC_ hg BK321; replace BK321 := bB_ BK321 hb; clear hb hbox hg) | ((with_reducible refine gd_ 4 ?_); refine bx_ 4 #[.slice none 0 0, .bool false, .int .i64 0] 24 ?_; intro gb323 hg w26 hbox hb; have BK323 := a_ (hbox); have GE323 := a_ (bs_2 hg HB GE321 GE322); replace HB := hB_ (bl_2 HB GE321 GE322) hb; have NB321_323 := nB_ hg BK321; have NB323_321 := nC_ hg BK321; replace BK321 := bB_ BK321 hb; have NB322_323 := nB_ hg BK322; have NB323_322 := nC_ hg BK322; replace BK322 := bB_ BK322 hb; clear hb hbox hg; have hnb27 := NB322_321.out; have hnc27 := NB321_322.out; have hnb28 := NB322_323.out; have hnc28 := NB323_322.out; obtain ⟨hcz29_0, hcz29_1, hfz29_0, hfz29_1⟩ := c2_ BK322) | ((with_reducible refine gk_ 21 ?_); refine gl_ (some 8) Try.func21 #[.agg #[.int .u64 a1_0, .int .i64 a1_1]] ?_; (with_reducible refine (hard_Check.calls a1_0 a1_1 t324 _ A3.out).mono ?_); rintro e w30 ⟨rfl, hb⟩; refine ⟨_, rfl, ?_⟩; replace BK321 := bB_ BK321 hb; replace BK322 := bB_ BK322 hb; replace BK323 := bB_ BK323 hb; replace HB := hB_ (bl_3 HB GE321 GE322 GE323) hb; (try clear hb); have hnb31 := NB321_323.out; have hnc31 := NB323_321.out; obtain ⟨hcz32_0, hcz32_1, hcz32_2, hfz32_0, hfz32_1, hfz32_2⟩ := c3_ BK321) | ((with_reducible refine gk_ 37 ?_); refine gl_ (some 12) Try.func37 #[.agg #[.slice A0_0 l0_0.length c0_0, .bool a0_1, .int .i64 a0_2]] ?_; (with_reducible refine (disk_Check.calls k _ _ l0_0 a0_1 a0_2 t332 _ ?side1 ?side2 A21.out).mono ?_); (case side1 => exact cl_ (Kd.C_below HR0_0.out HB.out)); (case side2 => exact HC0_0.out); rintro e w33 ⟨rfl, hb⟩; refine ⟨_, rfl, ?_⟩; replace BK321 := bB_ BK321 hb; replace BK322 := bB_ BK322 hb; replace BK323 := bB_ BK323 hb; replace HB := hB_ (bl_3 HB GE321 GE322 GE323) hb; (try clear hb)) | ((with_reducible refine gd_ 16 ?_); refine Kd.R_lit k71 _ 71 ?hg (N := 16) ?hd (xs := ([] : List (S71))) (inner := []) (ok := fun _ => True) (okp := fun _ => True) ?hr ?hp (fun _ hk => hk) trivial (Below.refl _ _) (Nat.le_refl _) (by simp) ?_; (case hd => rfl); (case hg => rfl); (case hr => first | (go_simp; done) | (go_simp; rfl)); (case hp => exact (Reps.none _ _)); intro v334 w34 ho35 hb hg_ hnew_; clear hg_ hnew_; (first | rw [← Ny333.out] at ho35 | (simp only [Int.reduceToNat] at ho35; rw [← Ny333.out] at ho35)); have HO335 := a_ (Kd.R_lower ho35 (below_size (bl_3 HB GE321 GE322 GE323))); replace BK321 := bB_ BK321 hb; replace BK322 := bB_ BK322 hb; replace BK323 := bB_ BK323 hb; replace HB := hB_ (bl_3 HB GE321 GE322 GE323) hb; clear hb ho35; obtain ⟨hcz36_0, hcz36_1, hcz36_2, hfz36_0, hfz36_1, hfz36_2⟩ := c3_ BK321) | ((with_reducible refine gate_builtin (b := .append) (xs := #[.tmp 16, .tmp 18]) rfl ?_); at_builtin; refine Kd.R_append_rows k71 (w0 := w) w.heap.size rfl (.tmp 16) (.tmp 18) 22 71 (.agg #[(.string ⟨#[]⟩), (.string ⟨#[]⟩), (.int .i64 0)]) 40 rfl Try.underlying22 info71 rfl (by decide) (by omega) v334 y333 l0_0 _ _ _ (fun _ => True) (fun _ => False) rfl rfl ?aO ?aR (fun _ _ h => h) (fun _ h => h.elim) ?aF ?aB ?aS ?aL ?_; (case aR => exact cl_ (Kd.C_below HR0_0.out HB.out)); (case aB => exact (bl_3 HB GE321 GE322 GE323)); (case aF => exact (fun _ _ => trivial)); (case aO => exact (by refine rq_ ?_; exact HO335.out)); (case aS => exact (below_size (bl_3 HB GE321 GE322 GE323))); (case aL => have := LMc23.out; omega); intro v337 w37 ho hb hg hat; rw [← Ny336.out] at ho; replace BK321 := a_ (blk_grown (g := gb321) (o := .cells #[.slice A0_0 l0_0.length c0_0, .bool a0_1, .int .i64 a0_2] 24 (0, 0)) (bk_ BK321) hg (Kd.R_ne HO335.out BK321.out (by decide))); replace BK322 := a_ (blk_grown (g := gb322) (o := .cells #[.int .u64 a1_0, .int .i64 a1_1] 27 (0, 0)) (bk_ BK322) hg (Kd.R_ne HO335.out BK322.out (by decide))); replace BK323 := a_ (blk_grown (g := gb323) (o := .cells #[.slice none 0 0, .bool false, .int .i64 0] 24 (0, 0)) (bk_ BK323) hg (Kd.R_ne HO335.out BK323.out (by decide))); replace HB := a_ (hb); have HO338 := a_ (ho); clear HO335; clear ho hb hg hat; obtain ⟨Ao38, co38, eo38⟩ := Kd.R_slice HO338.out; subst eo38; obtain ⟨hcz39_0, hcz39_1, hcz39_2, hfz39_0, hfz39_1, hfz39_2⟩ := c3_ BK321; obtain ⟨hcz40_0, hcz40_1, hcz40_2, hfz40_0, hfz40_1, hfz40_2⟩ := c3_ BK323))
 refine bodyPost_ret (results_ct rfl _ _ gb323 24 #[.slice Ao38 y336.length co38, .bool a0_1, .int .i64 a0_2] (0, 0) _ rfl (bp_1 BK323 NB323_321) Try.underlying24 rfl (by kernel_rfl)) rfl ?_
 exact ⟨_, fz_, by refine rq_ ?_; exact Kd.R_mono (Kd.R_far (p := ⟨gb323, 2, none⟩) (Kd.R_far (p := ⟨gb323, 1, none⟩) (Kd.R_far (p := ⟨gb323, 0, none⟩) (Kd.R_far (p := ⟨gb321, 0, none⟩) (Kd.R_types (Kd.R_types HO338.out BK321.out (by decide)) BK323.out (by decide)) (fun _ hk => hk.1.2) (.slice Ao38 y336.length co38)) (fun _ hk => hk.2) (.slice Ao38 y336.length co38)) (fun _ hk => hk.2) (.bool a0_1)) (fun _ hk => hk.2) (.int .i64 a0_2)) (fun _ hk => trivial), bl_3 HB GE321 GE322 GE323⟩
/-! ### gafferref04_Check: function 22 -/
def gafferref04_Check.f (a0_0 : Int) (a0_1 : Int) : Option (Int) := if a0_1 < 0 then (some 1) else (if a0_1 > 7 then (some 1) else (some 0))
theorem gafferref04_Check.calls (a0_0 : Int) (a0_1 : Int) (r : Int) (w : World) (h : gafferref04_Check.f a0_0 a0_1 = some r) :
  Calls Try.prog 22 #[.agg #[.int .u64 a0_0, .int .i64 a0_1]] w fun e w' => e = .returned (.int .i64 r) ∧ Below w.heap.size w w' := by
 have hu27 := Try.underlying27
 have HB := a_ (Below.refl w.heap.size w)
 have H : (if a0_1 < 0 then (some 1) else (if a0_1 > 7 then (some 1) else (some 0))) = some r := h
 clear h
 by_cases c2 : a0_1 < 0
 ·rw [if_pos c2] at H
  have c2b0 : decide (a0_1 < 0) = true := decide_eq_true c2
  clear c2
  obtain rfl := Option.some.inj H
  go_enter Try.func22, Try.ntmps22
  go_wp2_with (first | ((with_reducible refine gd_ 1 ?_); refine bx_ 1 #[.int .u64 a0_0, .int .i64 a0_1] 27 ?_; intro gb339 hg w3 hbox hb; have BK339 := a_ (hbox); have GE339 := a_ (bs_0 hg HB); replace HB := hB_ (bl_ HB) hb; clear hb hbox hg; obtain ⟨hcz4_0, hcz4_1, hfz4_0, hfz4_1⟩ := c2_ BK339))
  go_ret
  exact ⟨fz_, bl_1 HB GE339⟩
 rw [if_neg c2] at H
 have c2b0 : decide (a0_1 < 0) = false := decide_eq_false c2
 clear c2
 by_cases c5 : a0_1 > 7
 ·rw [if_pos c5] at H
  have c5b0 : decide (7 < a0_1) = true := decide_eq_true c5
  clear c5
  obtain rfl := Option.some.inj H
  go_enter Try.func22, Try.ntmps22
  go_wp2_with (first | ((with_reducible refine gd_ 1 ?_); refine bx_ 1 #[.int .u64 a0_0, .int .i64 a0_1] 27 ?_; intro gb339 hg w6 hbox hb; have BK339 := a_ (hbox); have GE339 := a_ (bs_0 hg HB); replace HB := hB_ (bl_ HB) hb; clear hb hbox hg; obtain ⟨hcz7_0, hcz7_1, hfz7_0, hfz7_1⟩ := c2_ BK339))
  go_ret
  exact ⟨fz_, bl_1 HB GE339⟩
 rw [if_neg c5] at H
 have c5b0 : decide (7 < a0_1) = false := decide_eq_false c5
 clear c5
 obtain rfl := Option.some.inj H
 go_enter Try.func22, Try.ntmps22
 go_wp2_with (first | ((with_reducible refine gd_ 1 ?_); refine bx_ 1 #[.int .u64 a0_0, .int .i64 a0_1] 27 ?_; intro gb339 hg w8 hbox hb; have BK339 := a_ (hbox); have GE339 := a_ (bs_0 hg HB); replace HB := hB_ (bl_ HB) hb; clear hb hbox hg; obtain ⟨hcz9_0, hcz9_1, hfz9_0, hfz9_1⟩ := c2_ BK339))
 go_ret
 exact ⟨fz_, bl_1 HB GE339⟩

def gafferref02_ready.f (k : Nat) (l0_0 : List (S71)) (a0_1 : Bool) (a0_2 : Int) : Option (Int) := (gafferref02_Check.f k l0_0 a0_1 a0_2).bind fun t341 => (if t341 = 0 then (if a0_1 = true then (some 8) else (some 0)) else (some 10))
theorem gafferref02_ready.mono : ∀ a0 a1 a2 k, LeO (gafferref02_ready.f k a0 a1 a2) (gafferref02_ready.f (k + 1) a0 a1 a2) := by
 intro a0 a1 a2 k
 unfold gafferref02_ready.f
 repeat' with_reducible first | apply gafferref02_Check.mono | apply LeO.refl | apply LeO.none | apply LeO.ite | refine LeO.bind ?_ (fun _ => ?_)
theorem gafferref02_ready.calls (k : Nat) (A0_0 : Option Addr) (c0_0 : Nat) (l0_0 : List (S71)) (a0_1 : Bool) (a0_2 : Int) (r : Int) (w : World) (hr0_0 : Kd.C k71 w A0_0 l0_0.length l0_0) (hc0_0 : l0_0.length ≤ c0_0) (h : gafferref02_ready.f k l0_0 a0_1 a0_2 = some r) :
  Calls Try.prog 97 #[.agg #[.slice A0_0 l0_0.length c0_0, .bool a0_1, .int .i64 a0_2]] w fun e w' => e = .returned (.int .i64 r) ∧ Below w.heap.size w w' := by
 have hu24 := Try.underlying24
 have HR0_0 := a_ hr0_0
 have HC0_0 := a_ hc0_0
 clear hr0_0 hc0_0
 have HB := a_ (Below.refl w.heap.size w)
 have H : ((gafferref02_Check.f k l0_0 a0_1 a0_2).bind fun t341 => (if t341 = 0 then (if a0_1 = true then (some 8) else (some 0)) else (some 10))) = some r := h
 clear h
 obtain ⟨t341, A20, H⟩ := Option.bind_eq_some_iff.mp H
 try dsimp only at H
 have A2 := a_ A20
 clear A20
 by_cases c3 : t341 = 0
 rotate_left
 ·rw [if_neg c3] at H
  have c3b0 : (t341 == 0) = false := beq_eq_false_iff_ne.mpr c3
  have c3b1 : (t341 != 0) = true := bne_iff_ne.mpr c3
  obtain rfl := Option.some.inj H
  go_enter Try.func97, Try.ntmps97
  go_wp2_with (first | ((with_reducible refine gd_ 1 ?_); refine bx_ 1 #[.slice A0_0 l0_0.length c0_0, .bool a0_1, .int .i64 a0_2] 24 ?_; intro gb340 hg w13 hbox hb; have BK340 := a_ (hbox); have GE340 := a_ (bs_0 hg HB); replace HB := hB_ (bl_ HB) hb; clear hb hbox hg; obtain ⟨hcz14_0, hcz14_1, hcz14_2, hfz14_0, hfz14_1, hfz14_2⟩ := c3_ BK340) | ((with_reducible refine gk_ 46 ?_); refine gl_ (some 5) Try.func46 #[.agg #[.slice A0_0 l0_0.length c0_0, .bool a0_1, .int .i64 a0_2]] ?_; (with_reducible refine (gafferref02_Check.calls k _ _ l0_0 a0_1 a0_2 t341 _ ?side1 ?side2 A2.out).mono ?_); (case side1 => exact cl_ (Kd.C_below HR0_0.out HB.out)); (case side2 => exact HC0_0.out); rintro e w15 ⟨rfl, hb⟩; refine ⟨_, rfl, ?_⟩; replace BK340 := bB_ BK340 hb; replace HB := hB_ (bl_1 HB GE340) hb; (try clear hb)))
  go_ret
  exact ⟨fz_, bl_1 HB GE340⟩


 rw [if_pos c3] at H
 have c3b0 : (t341 == 0) = true := beq_iff_eq.mpr c3
 have c3b1 : (t341 != 0) = false := bne_eq_false_iff_eq.mpr c3
 clear c3
 by_cases c4 : a0_1 = true
 ·subst c4
  have H1 : (some 8) = some r := by rw [if_pos rfl] at H; exact H
  clear H
  have H := H1
  clear H1
  obtain rfl := Option.some.inj H
  go_enter Try.func97, Try.ntmps97
  go_wp2_with (first | ((with_reducible refine gd_ 1 ?_); refine bx_ 1 #[.slice A0_0 l0_0.length c0_0, .bool true, .int .i64 a0_2] 24 ?_; intro gb340 hg w5 hbox hb; have BK340 := a_ (hbox); have GE340 := a_ (bs_0 hg HB); replace HB := hB_ (bl_ HB) hb; clear hb hbox hg; obtain ⟨hcz6_0, hcz6_1, hcz6_2, hfz6_0, hfz6_1, hfz6_2⟩ := c3_ BK340) | ((with_reducible refine gk_ 46 ?_); refine gl_ (some 5) Try.func46 #[.agg #[.slice A0_0 l0_0.length c0_0, .bool true, .int .i64 a0_2]] ?_; (with_reducible refine (gafferref02_Check.calls k _ _ l0_0 true a0_2 t341 _ ?side1 ?side2 A2.out).mono ?_); (case side1 => exact cl_ (Kd.C_below HR0_0.out HB.out)); (case side2 => exact HC0_0.out); rintro e w7 ⟨rfl, hb⟩; refine ⟨_, rfl, ?_⟩; replace BK340 := bB_ BK340 hb; replace HB := hB_ (bl_1 HB GE340) hb; (try clear hb); obtain ⟨hcz8_0, hcz8_1, hcz8_2, hfz8_0, hfz8_1, hfz8_2⟩ := c3_ BK340))
  go_ret
  exact ⟨fz_, bl_1 HB GE340⟩
 replace c4 := Bool.eq_false_iff.mpr c4
 subst c4
 have H1 : (some 0) = some r := by rw [if_neg (show ¬ (false = true) by decide)] at H; exact H
 clear H
 have H := H1
 clear H1
 obtain rfl := Option.some.inj H
 go_enter Try.func97, Try.ntmps97
 go_wp2_with (first | ((with_reducible refine gd_ 1 ?_); refine bx_ 1 #[.slice A0_0 l0_0.length c0_0, .bool false, .int .i64 a0_2] 24 ?_; intro gb340 hg w9 hbox hb; have BK340 := a_ (hbox); have GE340 := a_ (bs_0 hg HB); replace HB := hB_ (bl_ HB) hb; clear hb hbox hg; obtain ⟨hcz10_0, hcz10_1, hcz10_2, hfz10_0, hfz10_1, hfz10_2⟩ := c3_ BK340) | ((with_reducible refine gk_ 46 ?_); refine gl_ (some 5) Try.func46 #[.agg #[.slice A0_0 l0_0.length c0_0, .bool false, .int .i64 a0_2]] ?_; (with_reducible refine (gafferref02_Check.calls k _ _ l0_0 false a0_2 t341 _ ?side1 ?side2 A2.out).mono ?_); (case side1 => exact cl_ (Kd.C_below HR0_0.out HB.out)); (case side2 => exact HC0_0.out); rintro e w11 ⟨rfl, hb⟩; refine ⟨_, rfl, ?_⟩; replace BK340 := bB_ BK340 hb; replace HB := hB_ (bl_1 HB GE340) hb; (try clear hb); obtain ⟨hcz12_0, hcz12_1, hcz12_2, hfz12_0, hfz12_1, hfz12_2⟩ := c3_ BK340))
 go_ret
 exact ⟨fz_, bl_1 HB GE340⟩
/-! ### gafferref02_bad: function 98 -/
def gafferref02_bad.f (l0_0 : List (S71)) (a0_1 : Bool) (a0_2 : Int) (a1 : Int) : Option ((List (S71)) × Bool × Int × Int) := if a1 = 10 then (some (([] : List (S71)), false, 0, a1)) else ((gafferref02_Copy.f l0_0 a0_1 a0_2).bind fun bt344 => (some (bt344.1, bt344.2.1, bt344.2.2, a1)))
theorem gafferref02_bad.calls (A0_0 : Option Addr) (c0_0 : Nat) (l0_0 : List (S71)) (a0_1 : Bool) (a0_2 : Int) (a1 : Int) (r1 : List (S71)) (r2 : Bool) (r3 : Int) (r4 : Int) (w : World) (hr0_0 : Kd.C k71 w A0_0 l0_0.length l0_0) (hc0_0 : l0_0.length ≤ c0_0) (h : gafferref02_bad.f l0_0 a0_1 a0_2 a1 = some (r1, r2, r3, r4)) :
  Calls Try.prog 98 #[.agg #[.slice A0_0 l0_0.length c0_0, .bool a0_1, .int .i64 a0_2], .int .i64 a1] w fun e w' => ∃ v0_ : Value, e = .returned (.tuple #[.agg #[v0_, .bool r2, .int .i64 r3], .int .i64 r4]) ∧ Kd.R k71 71 w' w.heap.size (fun _ => True) v0_ r1 ∧ Below w.heap.size w w' := by
 have hu24 := Try.underlying24
 have HR0_0 := a_ hr0_0
 have HC0_0 := a_ hc0_0
 clear hr0_0 hc0_0
 have HB := a_ (Below.refl w.heap.size w)
 have H : (if a1 = 10 then (some (([] : List (S71)), false, 0, a1)) else ((gafferref02_Copy.f l0_0 a0_1 a0_2).bind fun bt344 => (some (bt344.1, bt344.2.1, bt344.2.2, a1)))) = some (r1, r2, r3, r4) := h
 clear h
 by_cases c3 : a1 = 10
 ·rw [if_pos c3] at H
  have c3b0 : (a1 == 10) = true := beq_iff_eq.mpr c3
  have c3b1 : (a1 != 10) = false := bne_eq_false_iff_eq.mpr c3
  clear c3
  simp only [Option.some.injEq, Prod.mk.injEq] at H
  obtain ⟨rfl, rfl, rfl, rfl⟩ := H
  go_enter Try.func98, Try.ntmps98
  go_wp2_with (first | ((with_reducible refine gd_ 2 ?_); refine bx_ 2 #[.slice A0_0 l0_0.length c0_0, .bool a0_1, .int .i64 a0_2] 24 ?_; intro gb342 hg w4 hbox hb; have BK342 := a_ (hbox); have GE342 := a_ (bs_0 hg HB); replace HB := hB_ (bl_ HB) hb; clear hb hbox hg) | ((with_reducible refine gd_ 4 ?_); refine bx_ 4 #[.slice none 0 0, .bool false, .int .i64 0] 24 ?_; intro gb343 hg w5 hbox hb; have BK343 := a_ (hbox); have GE343 := a_ (bs_1 hg HB GE342); replace HB := hB_ (bl_1 HB GE342) hb; have NB342_343 := nB_ hg BK342; have NB343_342 := nC_ hg BK342; replace BK342 := bB_ BK342 hb; clear hb hbox hg; have hnb6 := NB343_342.out; have hnc6 := NB342_343.out; obtain ⟨hcz7_0, hcz7_1, hcz7_2, hfz7_0, hfz7_1, hfz7_2⟩ := c3_ BK343))
  refine bodyPost_ret (results_ct rfl _ _ gb343 24 #[.slice none 0 0, .bool false, .int .i64 0] (0, 0) _ rfl (bp_0 BK343) Try.underlying24 rfl (by kernel_rfl)) rfl ?_
  exact ⟨_, fz_, by first | exact Kd.R_nil _ _ _ _ _ | exact Kd.N_nil _ _ _ _ _ | exact Kd.V_nil _ _ _ _ _ | exact Kd.Q_nil _ _ _ _ _ | exact Kd.S_nil _ _ _ _ _, bl_2 HB GE342 GE343⟩
 rw [if_neg c3] at H
 have c3b0 : (a1 == 10) = false := beq_eq_false_iff_ne.mpr c3
 have c3b1 : (a1 != 10) = true := bne_iff_ne.mpr c3
 obtain ⟨⟨t344, t347, t348⟩, A80, H⟩ := Option.bind_eq_some_iff.mp H
 try dsimp only at H
 have A8 := a_ A80
 clear A80
 simp only [Option.some.injEq, Prod.mk.injEq] at H
 obtain ⟨rfl, rfl, rfl, rfl⟩ := H
 go_enter Try.func98, Try.ntmps98
 go_wp2_with (first | ((with_reducible refine gd_ 2 ?_); refine bx_ 2 #[.slice A0_0 l0_0.length c0_0, .bool a0_1, .int .i64 a0_2] 24 ?_; intro gb342 hg w9 hbox hb; have BK342 := a_ (hbox); have GE342 := a_ (bs_0 hg HB); replace HB := hB_ (bl_ HB) hb; clear hb hbox hg) | ((with_reducible refine gd_ 4 ?_); refine bx_ 4 #[.slice none 0 0, .bool false, .int .i64 0] 24 ?_; intro gb343 hg w10 hbox hb; have BK343 := a_ (hbox); have GE343 := a_ (bs_1 hg HB GE342); replace HB := hB_ (bl_1 HB GE342) hb; have NB342_343 := nB_ hg BK342; have NB343_342 := nC_ hg BK342; replace BK342 := bB_ BK342 hb; clear hb hbox hg; have hnb11 := NB342_343.out; have hnc11 := NB343_342.out; obtain ⟨hcz12_0, hcz12_1, hcz12_2, hfz12_0, hfz12_1, hfz12_2⟩ := c3_ BK342) | ((with_reducible refine gk_ 14 ?_); refine gl_ (some 11) Try.func14 #[.agg #[.slice A0_0 l0_0.length c0_0, .bool a0_1, .int .i64 a0_2]] ?_; (with_reducible refine (gafferref02_Copy.calls _ _ l0_0 a0_1 a0_2 t344 t347 t348 _ ?side1 ?side2 A8.out).mono ?_); (case side1 => exact cl_ (Kd.C_below HR0_0.out HB.out)); (case side2 => exact HC0_0.out); rintro e w13 ⟨v345, rfl, ho0, hb⟩; refine ⟨_, rfl, ?_⟩; have HO346 := a_ (Kd.R_lower ho0 (below_size (bl_2 HB GE342 GE343))); replace BK342 := bB_ BK342 hb; replace BK343 := bB_ BK343 hb; replace HB := hB_ (bl_2 HB GE342 GE343) hb; (try clear hb); (try clear ho0); obtain ⟨Ao14, co14, eo14⟩ := Kd.R_slice HO346.out; subst eo14; obtain ⟨hcz15_0, hcz15_1, hcz15_2, hfz15_0, hfz15_1, hfz15_2⟩ := c3_ BK343))
 refine bodyPost_ret (results_ct rfl _ _ gb343 24 #[.slice Ao14 t344.length co14, .bool t347, .int .i64 t348] (0, 0) _ rfl (bp_0 BK343) Try.underlying24 rfl (by kernel_rfl)) rfl ?_
 exact ⟨_, fz_, by refine rq_ ?_; exact Kd.R_mono (Kd.R_far (p := ⟨gb343, 2, none⟩) (Kd.R_far (p := ⟨gb343, 1, none⟩) (Kd.R_far (p := ⟨gb343, 0, none⟩) (Kd.R_types HO346.out BK343.out (by decide)) (fun _ hk => hk.2) (.slice Ao14 t344.length co14)) (fun _ hk => hk.2) (.bool t347)) (fun _ hk => hk.2) (.int .i64 t348)) (fun _ hk => trivial), bl_2 HB GE342 GE343⟩

def gafferref02_burnt.f (l0_0 : List (S71)) (a0_1 : Bool) (a0_2 : Int) : Option ((List (S71)) × Bool × Int × Bool) := if a0_2 = 0 then (some (l0_0, true, a0_2, false)) else (if a0_2 > 0 then (some (l0_0, a0_1, wrap64 (a0_2 - 1), true)) else (some (l0_0, a0_1, a0_2, true)))
theorem gafferref02_burnt.calls (P0_0_ : Nat → Prop) (u9000_ : Value) (l0_0 : List (S71)) (a0_1 : Bool) (a0_2 : Int) (r1 : List (S71)) (r2 : Bool) (r3 : Int) (r4 : Bool) (w0 w : World) (hB : Below w0.heap.size w0 w) (ho0_0 : Kd.R k71 71 w w0.heap.size P0_0_ u9000_ l0_0) (h : gafferref02_burnt.f l0_0 a0_1 a0_2 = some (r1, r2, r3, r4)) :
  Calls Try.prog 99 #[.agg #[u9000_, .bool a0_1, .int .i64 a0_2]] w fun e w' => ∃ v0_ : Value, e = .returned (.tuple #[.agg #[v0_, .bool r2, .int .i64 r3], .bool r4]) ∧ Kd.R k71 71 w' w0.heap.size (fun k_ => (P0_0_ k_ ∨ w.heap.size ≤ k_)) v0_ r1 ∧ Below w0.heap.size w0 w' ∧ Kept w w' (fun k_ => P0_0_ k_) := by
 have hu24 := Try.underlying24
 have HO0_0 := a_ (show Kd.R k71 71 w w0.heap.size (fun k_ => (P0_0_ k_ ∨ w.heap.size ≤ k_)) u9000_ l0_0 from Kd.R_mono ho0_0 (fun k_ hk => (.inl hk)))
 have HK := a_ (Kept.refl w (fun k_ => P0_0_ k_))
 have HW0 := a_ hB.size
 have HB := a_ hB
 clear hB
 have H : (if a0_2 = 0 then (some (l0_0, true, a0_2, false)) else (if a0_2 > 0 then (some (l0_0, a0_1, wrap64 (a0_2 - 1), true)) else (some (l0_0, a0_1, a0_2, true)))) = some (r1, r2, r3, r4) := h
 clear h
 by_cases c2 : a0_2 = 0
 ·rw [if_pos c2] at H
  have c2b0 : (a0_2 == 0) = true := beq_iff_eq.mpr c2
  have c2b1 : (a0_2 != 0) = false := bne_eq_false_iff_eq.mpr c2
  clear c2
  simp only [Option.some.injEq, Prod.mk.injEq] at H
  obtain ⟨rfl, rfl, rfl, rfl⟩ := H
  obtain ⟨Ao3, co3, eo3⟩ := Kd.R_slice HO0_0.out
  subst eo3
  go_enter Try.func99, Try.ntmps99
  go_wp2_with (first | ((with_reducible refine gd_ 1 ?_); refine bx_ 1 #[.slice Ao3 l0_0.length co3, .bool a0_1, .int .i64 a0_2] 24 ?_; intro gb349 hg w4 hbox hb; replace HO0_0 := a_ (Kd.R_below (by refine rq_ ?_; exact HO0_0.out) hb); have BK349 := a_ (hbox); have GW349 := a_ ((by rw [hg]; exact (by first | exact HK.out.1 | exact (show Kept w _ (fun k_ => P0_0_ k_) from by repeat (first | (with_reducible first | exact HK.out | apply Kept.alloc | apply Kept.drewN | apply Kept.drew) | exact HK.out)).1) : w.heap.size ≤ gb349)); replace HK := a_ (Kept.below (S := (fun k_ => P0_0_ k_)) (by repeat (first | (with_reducible first | exact HK.out | apply Kept.alloc | apply Kept.drewN | apply Kept.drew) | exact HK.out)) hb); have GE349 := a_ (bs_0 hg HB); replace HB := hB_ (bl_ HB) hb; clear hb hbox hg) | ((with_reducible refine gd_ 2 ?_); refine bx_ 2 #[.slice none 0 0, .bool false, .int .i64 0] 24 ?_; intro gb350 hg w5 hbox hb; replace HO0_0 := a_ (Kd.R_below (by refine rq_ ?_; exact HO0_0.out) hb); have BK350 := a_ (hbox); have GW350 := a_ ((by rw [hg]; exact (by first | exact HK.out.1 | exact (show Kept w _ (fun k_ => P0_0_ k_) from by repeat (first | (with_reducible first | exact HK.out | apply Kept.alloc | apply Kept.drewN | apply Kept.drew | refine Kept.setCell ?_ (.inr GW349.out) _) | exact HK.out)).1) : w.heap.size ≤ gb350)); replace HK := a_ (Kept.below (S := (fun k_ => P0_0_ k_)) (by repeat (first | (with_reducible first | exact HK.out | apply Kept.alloc | apply Kept.drewN | apply Kept.drew | refine Kept.setCell ?_ (.inr GW349.out) _) | exact HK.out)) hb); have GE350 := a_ (bs_1 hg HB GE349); replace HB := hB_ (bl_1 HB GE349) hb; have NB349_350 := nB_ hg BK349; have NB350_349 := nC_ hg BK349; replace BK349 := bB_ BK349 hb; clear hb hbox hg; have hnb6 := NB349_350.out; have hnc6 := NB350_349.out; obtain ⟨hcz7_0, hcz7_1, hcz7_2, hfz7_0, hfz7_1, hfz7_2⟩ := c3_ BK349; obtain ⟨hcz8_0, hcz8_1, hcz8_2, hfz8_0, hfz8_1, hfz8_2⟩ := c3_ BK350))
  refine bodyPost_ret (results_ct rfl _ _ gb350 24 #[.slice Ao3 l0_0.length co3, .bool true, .int .i64 a0_2] (0, 0) _ rfl (bp_1 BK350 NB350_349) Try.underlying24 rfl (by kernel_rfl)) rfl ?_
  exact ⟨_, fz_, by refine rq_ ?_; exact Kd.R_mono (Kd.R_far (p := ⟨gb350, 2, none⟩) (Kd.R_far (p := ⟨gb350, 1, none⟩) (Kd.R_far (p := ⟨gb350, 0, none⟩) (Kd.R_far (p := ⟨gb349, 1, none⟩) (Kd.R_types (Kd.R_types HO0_0.out BK349.out (by decide)) BK350.out (by decide)) (fun _ hk => hk.1.2) (.bool true)) (fun _ hk => hk.2) (.slice Ao3 l0_0.length co3)) (fun _ hk => hk.2) (.bool true)) (fun _ hk => hk.2) (.int .i64 a0_2)) (fun _ hk => hk.1.1), bl_2 HB GE349 GE350, by repeat (first | (with_reducible first | exact HK.out | apply Kept.alloc | apply Kept.drewN | apply Kept.drew | refine Kept.setCell ?_ (.inr GW349.out) _ | refine Kept.setCell ?_ (.inr GW350.out) _) | exact HK.out)⟩
 rw [if_neg c2] at H
 have c2b0 : (a0_2 == 0) = false := beq_eq_false_iff_ne.mpr c2
 have c2b1 : (a0_2 != 0) = true := bne_iff_ne.mpr c2
 by_cases c9 : a0_2 > 0
 rotate_left
 ·rw [if_neg c9] at H
  have c9b0 : decide (0 < a0_2) = false := decide_eq_false c9
  clear c9
  simp only [Option.some.injEq, Prod.mk.injEq] at H
  obtain ⟨rfl, rfl, rfl, rfl⟩ := H
  obtain ⟨Ao16, co16, eo16⟩ := Kd.R_slice HO0_0.out
  subst eo16
  go_enter Try.func99, Try.ntmps99
  go_wp2_with (first | ((with_reducible refine gd_ 1 ?_); refine bx_ 1 #[.slice Ao16 l0_0.length co16, .bool a0_1, .int .i64 a0_2] 24 ?_; intro gb349 hg w17 hbox hb; replace HO0_0 := a_ (Kd.R_below (by refine rq_ ?_; exact HO0_0.out) hb); have BK349 := a_ (hbox); have GW349 := a_ ((by rw [hg]; exact (by first | exact HK.out.1 | exact (show Kept w _ (fun k_ => P0_0_ k_) from by repeat (first | (with_reducible first | exact HK.out | apply Kept.alloc | apply Kept.drewN | apply Kept.drew) | exact HK.out)).1) : w.heap.size ≤ gb349)); replace HK := a_ (Kept.below (S := (fun k_ => P0_0_ k_)) (by repeat (first | (with_reducible first | exact HK.out | apply Kept.alloc | apply Kept.drewN | apply Kept.drew) | exact HK.out)) hb); have GE349 := a_ (bs_0 hg HB); replace HB := hB_ (bl_ HB) hb; clear hb hbox hg) | ((with_reducible refine gd_ 2 ?_); refine bx_ 2 #[.slice none 0 0, .bool false, .int .i64 0] 24 ?_; intro gb350 hg w18 hbox hb; replace HO0_0 := a_ (Kd.R_below (by refine rq_ ?_; exact HO0_0.out) hb); have BK350 := a_ (hbox); have GW350 := a_ ((by rw [hg]; exact (by first | exact HK.out.1 | exact (show Kept w _ (fun k_ => P0_0_ k_) from by repeat (first | (with_reducible first | exact HK.out | apply Kept.alloc | apply Kept.drewN | apply Kept.drew | refine Kept.setCell ?_ (.inr GW349.out) _) | exact HK.out)).1) : w.heap.size ≤ gb350)); replace HK := a_ (Kept.below (S := (fun k_ => P0_0_ k_)) (by repeat (first | (with_reducible first | exact HK.out | apply Kept.alloc | apply Kept.drewN | apply Kept.drew | refine Kept.setCell ?_ (.inr GW349.out) _) | exact HK.out)) hb); have GE350 := a_ (bs_1 hg HB GE349); replace HB := hB_ (bl_1 HB GE349) hb; have NB349_350 := nB_ hg BK349; have NB350_349 := nC_ hg BK349; replace BK349 := bB_ BK349 hb; clear hb hbox hg; have hnb19 := NB349_350.out; have hnc19 := NB350_349.out; obtain ⟨hcz20_0, hcz20_1, hcz20_2, hfz20_0, hfz20_1, hfz20_2⟩ := c3_ BK349; obtain ⟨hcz21_0, hcz21_1, hcz21_2, hfz21_0, hfz21_1, hfz21_2⟩ := c3_ BK350))
  refine bodyPost_ret (results_ct rfl _ _ gb350 24 #[.slice Ao16 l0_0.length co16, .bool a0_1, .int .i64 a0_2] (0, 0) _ rfl (bp_0 BK350) Try.underlying24 rfl (by kernel_rfl)) rfl ?_
  exact ⟨_, fz_, by refine rq_ ?_; exact Kd.R_mono (Kd.R_far (p := ⟨gb350, 2, none⟩) (Kd.R_far (p := ⟨gb350, 1, none⟩) (Kd.R_far (p := ⟨gb350, 0, none⟩) (Kd.R_types HO0_0.out BK350.out (by decide)) (fun _ hk => hk.2) (.slice Ao16 l0_0.length co16)) (fun _ hk => hk.2) (.bool a0_1)) (fun _ hk => hk.2) (.int .i64 a0_2)) (fun _ hk => hk.1), bl_2 HB GE349 GE350, by repeat (first | (with_reducible first | exact HK.out | apply Kept.alloc | apply Kept.drewN | apply Kept.drew | refine Kept.setCell ?_ (.inr GW349.out) _ | refine Kept.setCell ?_ (.inr GW350.out) _) | exact HK.out)⟩


 rw [if_pos c9] at H
 have c9b0 : decide (0 < a0_2) = true := decide_eq_true c9
 clear c9
 simp only [Option.some.injEq, Prod.mk.injEq] at H
 obtain ⟨rfl, rfl, rfl, rfl⟩ := H
 obtain ⟨Ao10, co10, eo10⟩ := Kd.R_slice HO0_0.out
 subst eo10
 go_enter Try.func99, Try.ntmps99
 go_wp2_with (first | ((with_reducible refine gd_ 1 ?_); refine bx_ 1 #[.slice Ao10 l0_0.length co10, .bool a0_1, .int .i64 a0_2] 24 ?_; intro gb349 hg w11 hbox hb; replace HO0_0 := a_ (Kd.R_below (by refine rq_ ?_; exact HO0_0.out) hb); have BK349 := a_ (hbox); have GW349 := a_ ((by rw [hg]; exact (by first | exact HK.out.1 | exact (show Kept w _ (fun k_ => P0_0_ k_) from by repeat (first | (with_reducible first | exact HK.out | apply Kept.alloc | apply Kept.drewN | apply Kept.drew) | exact HK.out)).1) : w.heap.size ≤ gb349)); replace HK := a_ (Kept.below (S := (fun k_ => P0_0_ k_)) (by repeat (first | (with_reducible first | exact HK.out | apply Kept.alloc | apply Kept.drewN | apply Kept.drew) | exact HK.out)) hb); have GE349 := a_ (bs_0 hg HB); replace HB := hB_ (bl_ HB) hb; clear hb hbox hg) | ((with_reducible refine gd_ 2 ?_); refine bx_ 2 #[.slice none 0 0, .bool false, .int .i64 0] 24 ?_; intro gb350 hg w12 hbox hb; replace HO0_0 := a_ (Kd.R_below (by refine rq_ ?_; exact HO0_0.out) hb); have BK350 := a_ (hbox); have GW350 := a_ ((by rw [hg]; exact (by first | exact HK.out.1 | exact (show Kept w _ (fun k_ => P0_0_ k_) from by repeat (first | (with_reducible first | exact HK.out | apply Kept.alloc | apply Kept.drewN | apply Kept.drew | refine Kept.setCell ?_ (.inr GW349.out) _) | exact HK.out)).1) : w.heap.size ≤ gb350)); replace HK := a_ (Kept.below (S := (fun k_ => P0_0_ k_)) (by repeat (first | (with_reducible first | exact HK.out | apply Kept.alloc | apply Kept.drewN | apply Kept.drew | refine Kept.setCell ?_ (.inr GW349.out) _) | exact HK.out)) hb); have GE350 := a_ (bs_1 hg HB GE349); replace HB := hB_ (bl_1 HB GE349) hb; have NB349_350 := nB_ hg BK349; have NB350_349 := nC_ hg BK349; replace BK349 := bB_ BK349 hb; clear hb hbox hg; have hnb13 := NB349_350.out; have hnc13 := NB350_349.out; obtain ⟨hcz14_0, hcz14_1, hcz14_2, hfz14_0, hfz14_1, hfz14_2⟩ := c3_ BK349; obtain ⟨hcz15_0, hcz15_1, hcz15_2, hfz15_0, hfz15_1, hfz15_2⟩ := c3_ BK350))
 refine bodyPost_ret (results_ct rfl _ _ gb350 24 #[.slice Ao10 l0_0.length co10, .bool a0_1, .int .i64 (wrap64 (a0_2 - 1))] (0, 0) _ rfl (bp_1 BK350 NB350_349) Try.underlying24 rfl (by kernel_rfl)) rfl ?_
 exact ⟨_, fz_, by refine rq_ ?_; exact Kd.R_mono (Kd.R_far (p := ⟨gb350, 2, none⟩) (Kd.R_far (p := ⟨gb350, 1, none⟩) (Kd.R_far (p := ⟨gb350, 0, none⟩) (Kd.R_far (p := ⟨gb349, 2, none⟩) (Kd.R_types (Kd.R_types HO0_0.out BK349.out (by decide)) BK350.out (by decide)) (fun _ hk => hk.1.2) (.int .i64 (wrap64 (a0_2 - 1)))) (fun _ hk => hk.2) (.slice Ao10 l0_0.length co10)) (fun _ hk => hk.2) (.bool a0_1)) (fun _ hk => hk.2) (.int .i64 (wrap64 (a0_2 - 1)))) (fun _ hk => hk.1.1), bl_2 HB GE349 GE350, by repeat (first | (with_reducible first | exact HK.out | apply Kept.alloc | apply Kept.drewN | apply Kept.drew | refine Kept.setCell ?_ (.inr GW349.out) _ | refine Kept.setCell ?_ (.inr GW350.out) _) | exact HK.out)⟩end Go.Proofs.Ytpigjmjbfpipnaa.PD
