-- By a program of this session.
import Derived.Test.YtpigjmjbfpipnaaPFx0
import Derived.Test.YtpigjmjbfpipnaaPFx3
import Derived.Test.YtpigjmjbfpipnaaPFx4
import Derived.Test.YtpigjmjbfpipnaaPFx9
import Derived.Test.YtpigjmjbfpipnaaPFx11
namespace Go.Proofs.Ytpigjmjbfpipnaa.PF
open Go.RowKit YtpigjmjbfpipnaaW.PrintWords YtpigjmjbfpipnaaW.PrintLast YtpigjmjbfpipnaaW.PrintMore Sh Ytpigjmjbfpipnaa.Op
attribute [local go_sem] max2_int min2_int max_two min_two max_three min_three max_four min_four
set_option linter.unusedVariables false
set_option maxHeartbeats 80000000
set_option maxRecDepth 100000
set_option linter.unusedSimpArgs false
def disk_Drop.f (k : Nat) (l0_0 : List (S71)) (a0_1 : Bool) (a0_2 : Int) (a1 : ByteArray) : Option ((List (S71)) × Bool × Int × Int) := (disk_done.f k l0_0 a0_1 a0_2 4 a1 (⟨#[]⟩ : ByteArray) (⟨#[]⟩ : ByteArray) 0).bind fun bt292 => (some (bt292.1, bt292.2.1, bt292.2.2.1, bt292.2.2.2))
theorem disk_Drop.mono : ∀ a0 a1 a2 a3 k, LeO (disk_Drop.f k a0 a1 a2 a3) (disk_Drop.f (k + 1) a0 a1 a2 a3) := by
 intro a0 a1 a2 a3 k
 unfold disk_Drop.f
 repeat' with_reducible first | apply disk_done.mono | apply LeO.refl | apply LeO.none | apply LeO.ite | refine LeO.bind ?_ (fun _ => ?_)
theorem disk_Drop.calls (k : Nat) (A0_0 : Option Addr) (c0_0 : Nat) (l0_0 : List (S71)) (a0_1 : Bool) (a0_2 : Int) (a1 : ByteArray) (r1 : List (S71)) (r2 : Bool) (r3 : Int) (r4 : Int) (w : World) (hr0_0 : Kd.C k71 w A0_0 l0_0.length l0_0) (hc0_0 : l0_0.length ≤ c0_0) (h : disk_Drop.f k l0_0 a0_1 a0_2 a1 = some (r1, r2, r3, r4)) :
  Calls Try.prog 67 #[.agg #[.slice A0_0 l0_0.length c0_0, .bool a0_1, .int .i64 a0_2], .string a1] w fun e w' => ∃ v0_ : Value, e = .returned (.tuple #[.agg #[v0_, .bool r2, .int .i64 r3], .int .i64 r4]) ∧ Kd.R k71 71 w' w.heap.size (fun _ => True) v0_ r1 ∧ Below w.heap.size w w' := by
 have hu24 := Try.underlying24
 have hu115 := Try.underlying115
 have HR0_0 := a_ hr0_0
 have HC0_0 := a_ hc0_0
 clear hr0_0 hc0_0
 have HB := a_ (Below.refl w.heap.size w)
 have H := h
 unfold disk_Drop.f at H
 clear h
 obtain ⟨⟨t292, t295, t296, t297⟩, A3, H⟩ := ob_ H
 try dsimp only at H
 obtain ⟨rfl, rfl, rfl, rfl⟩ := so4_ H
 go_enter Try.func67, Try.ntmps67
 go_wp2_with (first | ((with_reducible refine gd_ 2 ?_); refine bz_ 2 #[.slice A0_0 l0_0.length c0_0, .bool a0_1, .int .i64 a0_2] 24 ?_; intro gb290 hg w4 BK290 hb; have GE290 := a_ (bs_0 hg HB); replace HB := hB_ (bl_ HB) hb; clear hb hg) | ((with_reducible refine gd_ 4 ?_); refine bz_ 4 #[.slice none 0 0, .bool false, .int .i64 0] 24 ?_; intro gb291 hg w5 BK291 hb; have GE291 := a_ (bs_1 hg HB GE290); replace HB := hB_ (bl_1 HB GE290) hb; have NB290_291 := nB_ hg BK290; have NB291_290 := nC_ hg BK290; replace BK290 := bB_ BK290 hb; clear hb hg; have := NB290_291.out; have := NB291_290.out; obtain ⟨hcz7_0, hcz7_1, hcz7_2, hfz7_0, hfz7_1, hfz7_2⟩ := c3_ BK290) | ((with_reducible refine gk_ 96 ?_); refine gl_ (some 9) Try.func96 #[.agg #[.slice A0_0 l0_0.length c0_0, .bool a0_1, .int .i64 a0_2], .agg #[.int .u8 4, .string a1, .string (⟨#[]⟩ : ByteArray), .string (⟨#[]⟩ : ByteArray), .int .i64 0]] ?_; (with_reducible refine (disk_done.calls _ _ _ _ _ _ _ _ _ _ _ _ _ _ _ _ ?side1 ?side2 A3.out).mono ?_); (case side1 => exact cl_ (Kd.C_below HR0_0.out HB.out)); (case side2 => exact HC0_0.out); rintro e w8 ⟨v293, rfl, ho0, hb⟩; refine ⟨_, rfl, ?_⟩; have HO294 := a_ (Kd.R_lower ho0 (below_size (bl_2 HB GE290 GE291))); replace BK290 := bB_ BK290 hb; replace BK291 := bB_ BK291 hb; replace HB := hB_ (bl_2 HB GE290 GE291) hb; (try clear hb); (try clear ho0); obtain ⟨Ao9, co9, eo9⟩ := Kd.R_slice HO294.out; subst eo9; obtain ⟨hcz10_0, hcz10_1, hcz10_2, hfz10_0, hfz10_1, hfz10_2⟩ := c3_ BK291))
 refine bodyPost_ret (results_ct rfl _ _ gb291 24 #[.slice Ao9 t292.length co9, .bool t295, .int .i64 t296] (0, 0) _ rfl (bp_0 BK291) Try.underlying24 rfl (by kernel_rfl)) rfl ?_
 exact ⟨_, fz_, by refine rq_ ?_; exact rf1_ HO294 BK291, bl_2 HB GE290 GE291⟩

def disk_Add.f (k : Nat) (l0_0 : List (S71)) (a0_1 : Bool) (a0_2 : Int) (a1 : ByteArray) (a2 : ByteArray) : Option ((List (S71)) × Bool × Int × Int) := (disk_done.f k l0_0 a0_1 a0_2 0 a1 (⟨#[]⟩ : ByteArray) a2 0).bind fun bt300 => (some (bt300.1, bt300.2.1, bt300.2.2.1, bt300.2.2.2))
theorem disk_Add.mono : ∀ a0 a1 a2 a3 a4 k, LeO (disk_Add.f k a0 a1 a2 a3 a4) (disk_Add.f (k + 1) a0 a1 a2 a3 a4) := by
 intro a0 a1 a2 a3 a4 k
 unfold disk_Add.f
 repeat' with_reducible first | apply disk_done.mono | apply LeO.refl | apply LeO.none | apply LeO.ite | refine LeO.bind ?_ (fun _ => ?_)
theorem disk_Add.calls (k : Nat) (A0_0 : Option Addr) (c0_0 : Nat) (l0_0 : List (S71)) (a0_1 : Bool) (a0_2 : Int) (a1 : ByteArray) (a2 : ByteArray) (r1 : List (S71)) (r2 : Bool) (r3 : Int) (r4 : Int) (w : World) (hr0_0 : Kd.C k71 w A0_0 l0_0.length l0_0) (hc0_0 : l0_0.length ≤ c0_0) (h : disk_Add.f k l0_0 a0_1 a0_2 a1 a2 = some (r1, r2, r3, r4)) :
  Calls Try.prog 70 #[.agg #[.slice A0_0 l0_0.length c0_0, .bool a0_1, .int .i64 a0_2], .string a1, .string a2] w fun e w' => ∃ v0_ : Value, e = .returned (.tuple #[.agg #[v0_, .bool r2, .int .i64 r3], .int .i64 r4]) ∧ Kd.R k71 71 w' w.heap.size (fun _ => True) v0_ r1 ∧ Below w.heap.size w w' := by
 have hu24 := Try.underlying24
 have hu115 := Try.underlying115
 have HR0_0 := a_ hr0_0
 have HC0_0 := a_ hc0_0
 clear hr0_0 hc0_0
 have HB := a_ (Below.refl w.heap.size w)
 have H := h
 unfold disk_Add.f at H
 clear h
 obtain ⟨⟨t300, t303, t304, t305⟩, A4, H⟩ := ob_ H
 try dsimp only at H
 obtain ⟨rfl, rfl, rfl, rfl⟩ := so4_ H
 go_enter Try.func70, Try.ntmps70
 go_wp2_with (first | ((with_reducible refine gd_ 3 ?_); refine bz_ 3 #[.slice A0_0 l0_0.length c0_0, .bool a0_1, .int .i64 a0_2] 24 ?_; intro gb298 hg w5 BK298 hb; have GE298 := a_ (bs_0 hg HB); replace HB := hB_ (bl_ HB) hb; clear hb hg) | ((with_reducible refine gd_ 6 ?_); refine bz_ 6 #[.slice none 0 0, .bool false, .int .i64 0] 24 ?_; intro gb299 hg w6 BK299 hb; have GE299 := a_ (bs_1 hg HB GE298); replace HB := hB_ (bl_1 HB GE298) hb; have NB298_299 := nB_ hg BK298; have NB299_298 := nC_ hg BK298; replace BK298 := bB_ BK298 hb; clear hb hg; have := NB298_299.out; have := NB299_298.out; obtain ⟨hcz8_0, hcz8_1, hcz8_2, hfz8_0, hfz8_1, hfz8_2⟩ := c3_ BK298) | ((with_reducible refine gk_ 96 ?_); refine gl_ (some 12) Try.func96 #[.agg #[.slice A0_0 l0_0.length c0_0, .bool a0_1, .int .i64 a0_2], .agg #[.int .u8 0, .string a1, .string (⟨#[]⟩ : ByteArray), .string a2, .int .i64 0]] ?_; (with_reducible refine (disk_done.calls _ _ _ _ _ _ _ _ _ _ _ _ _ _ _ _ ?side1 ?side2 A4.out).mono ?_); (case side1 => exact cl_ (Kd.C_below HR0_0.out HB.out)); (case side2 => exact HC0_0.out); rintro e w9 ⟨v301, rfl, ho0, hb⟩; refine ⟨_, rfl, ?_⟩; have HO302 := a_ (Kd.R_lower ho0 (below_size (bl_2 HB GE298 GE299))); replace BK298 := bB_ BK298 hb; replace BK299 := bB_ BK299 hb; replace HB := hB_ (bl_2 HB GE298 GE299) hb; (try clear hb); (try clear ho0); obtain ⟨Ao10, co10, eo10⟩ := Kd.R_slice HO302.out; subst eo10; obtain ⟨hcz11_0, hcz11_1, hcz11_2, hfz11_0, hfz11_1, hfz11_2⟩ := c3_ BK299))
 refine bodyPost_ret (results_ct rfl _ _ gb299 24 #[.slice Ao10 t300.length co10, .bool t303, .int .i64 t304] (0, 0) _ rfl (bp_0 BK299) Try.underlying24 rfl (by kernel_rfl)) rfl ?_
 exact ⟨_, fz_, by refine rq_ ?_; exact rf1_ HO302 BK299, bl_2 HB GE298 GE299⟩

-- NOT PRINTED: function 69 (hard_Put_1)

def disk_Sync.f (k : Nat) (l0_0 : List (S71)) (a0_1 : Bool) (a0_2 : Int) (a1 : ByteArray) : Option ((List (S71)) × Bool × Int × Int) := (disk_done.f k l0_0 a0_1 a0_2 1 a1 (⟨#[]⟩ : ByteArray) (⟨#[]⟩ : ByteArray) 0).bind fun bt310 => (some (bt310.1, bt310.2.1, bt310.2.2.1, bt310.2.2.2))
theorem disk_Sync.mono : ∀ a0 a1 a2 a3 k, LeO (disk_Sync.f k a0 a1 a2 a3) (disk_Sync.f (k + 1) a0 a1 a2 a3) := by
 intro a0 a1 a2 a3 k
 unfold disk_Sync.f
 repeat' with_reducible first | apply disk_done.mono | apply LeO.refl | apply LeO.none | apply LeO.ite | refine LeO.bind ?_ (fun _ => ?_)
theorem disk_Sync.calls (k : Nat) (A0_0 : Option Addr) (c0_0 : Nat) (l0_0 : List (S71)) (a0_1 : Bool) (a0_2 : Int) (a1 : ByteArray) (r1 : List (S71)) (r2 : Bool) (r3 : Int) (r4 : Int) (w : World) (hr0_0 : Kd.C k71 w A0_0 l0_0.length l0_0) (hc0_0 : l0_0.length ≤ c0_0) (h : disk_Sync.f k l0_0 a0_1 a0_2 a1 = some (r1, r2, r3, r4)) :
  Calls Try.prog 72 #[.agg #[.slice A0_0 l0_0.length c0_0, .bool a0_1, .int .i64 a0_2], .string a1] w fun e w' => ∃ v0_ : Value, e = .returned (.tuple #[.agg #[v0_, .bool r2, .int .i64 r3], .int .i64 r4]) ∧ Kd.R k71 71 w' w.heap.size (fun _ => True) v0_ r1 ∧ Below w.heap.size w w' := by
 have hu24 := Try.underlying24
 have hu115 := Try.underlying115
 have HR0_0 := a_ hr0_0
 have HC0_0 := a_ hc0_0
 clear hr0_0 hc0_0
 have HB := a_ (Below.refl w.heap.size w)
 have H := h
 unfold disk_Sync.f at H
 clear h
 obtain ⟨⟨t310, t313, t314, t315⟩, A3, H⟩ := ob_ H
 try dsimp only at H
 obtain ⟨rfl, rfl, rfl, rfl⟩ := so4_ H
 go_enter Try.func72, Try.ntmps72
 go_wp2_with (first | ((with_reducible refine gd_ 2 ?_); refine bz_ 2 #[.slice A0_0 l0_0.length c0_0, .bool a0_1, .int .i64 a0_2] 24 ?_; intro gb308 hg w4 BK308 hb; have GE308 := a_ (bs_0 hg HB); replace HB := hB_ (bl_ HB) hb; clear hb hg) | ((with_reducible refine gd_ 4 ?_); refine bz_ 4 #[.slice none 0 0, .bool false, .int .i64 0] 24 ?_; intro gb309 hg w5 BK309 hb; have GE309 := a_ (bs_1 hg HB GE308); replace HB := hB_ (bl_1 HB GE308) hb; have NB308_309 := nB_ hg BK308; have NB309_308 := nC_ hg BK308; replace BK308 := bB_ BK308 hb; clear hb hg; have := NB308_309.out; have := NB309_308.out; obtain ⟨hcz7_0, hcz7_1, hcz7_2, hfz7_0, hfz7_1, hfz7_2⟩ := c3_ BK308) | ((with_reducible refine gk_ 96 ?_); refine gl_ (some 9) Try.func96 #[.agg #[.slice A0_0 l0_0.length c0_0, .bool a0_1, .int .i64 a0_2], .agg #[.int .u8 1, .string a1, .string (⟨#[]⟩ : ByteArray), .string (⟨#[]⟩ : ByteArray), .int .i64 0]] ?_; (with_reducible refine (disk_done.calls _ _ _ _ _ _ _ _ _ _ _ _ _ _ _ _ ?side1 ?side2 A3.out).mono ?_); (case side1 => exact cl_ (Kd.C_below HR0_0.out HB.out)); (case side2 => exact HC0_0.out); rintro e w8 ⟨v311, rfl, ho0, hb⟩; refine ⟨_, rfl, ?_⟩; have HO312 := a_ (Kd.R_lower ho0 (below_size (bl_2 HB GE308 GE309))); replace BK308 := bB_ BK308 hb; replace BK309 := bB_ BK309 hb; replace HB := hB_ (bl_2 HB GE308 GE309) hb; (try clear hb); (try clear ho0); obtain ⟨Ao9, co9, eo9⟩ := Kd.R_slice HO312.out; subst eo9; obtain ⟨hcz10_0, hcz10_1, hcz10_2, hfz10_0, hfz10_1, hfz10_2⟩ := c3_ BK309))
 refine bodyPost_ret (results_ct rfl _ _ gb309 24 #[.slice Ao9 t310.length co9, .bool t313, .int .i64 t314] (0, 0) _ rfl (bp_0 BK309) Try.underlying24 rfl (by kernel_rfl)) rfl ?_
 exact ⟨_, fz_, by refine rq_ ?_; exact rf1_ HO312 BK309, bl_2 HB GE308 GE309⟩

-- NOT PRINTED: function 71 (hard_Put_2)

def disk_Swap.f (k : Nat) (l0_0 : List (S71)) (a0_1 : Bool) (a0_2 : Int) (a1 : ByteArray) (a2 : ByteArray) : Option ((List (S71)) × Bool × Int × Int) := (disk_done.f k l0_0 a0_1 a0_2 3 a1 a2 (⟨#[]⟩ : ByteArray) 0).bind fun bt320 => (some (bt320.1, bt320.2.1, bt320.2.2.1, bt320.2.2.2))
theorem disk_Swap.mono : ∀ a0 a1 a2 a3 a4 k, LeO (disk_Swap.f k a0 a1 a2 a3 a4) (disk_Swap.f (k + 1) a0 a1 a2 a3 a4) := by
 intro a0 a1 a2 a3 a4 k
 unfold disk_Swap.f
 repeat' with_reducible first | apply disk_done.mono | apply LeO.refl | apply LeO.none | apply LeO.ite | refine LeO.bind ?_ (fun _ => ?_)
theorem disk_Swap.calls (k : Nat) (A0_0 : Option Addr) (c0_0 : Nat) (l0_0 : List (S71)) (a0_1 : Bool) (a0_2 : Int) (a1 : ByteArray) (a2 : ByteArray) (r1 : List (S71)) (r2 : Bool) (r3 : Int) (r4 : Int) (w : World) (hr0_0 : Kd.C k71 w A0_0 l0_0.length l0_0) (hc0_0 : l0_0.length ≤ c0_0) (h : disk_Swap.f k l0_0 a0_1 a0_2 a1 a2 = some (r1, r2, r3, r4)) :
  Calls Try.prog 74 #[.agg #[.slice A0_0 l0_0.length c0_0, .bool a0_1, .int .i64 a0_2], .string a1, .string a2] w fun e w' => ∃ v0_ : Value, e = .returned (.tuple #[.agg #[v0_, .bool r2, .int .i64 r3], .int .i64 r4]) ∧ Kd.R k71 71 w' w.heap.size (fun _ => True) v0_ r1 ∧ Below w.heap.size w w' := by
 have hu24 := Try.underlying24
 have hu115 := Try.underlying115
 have HR0_0 := a_ hr0_0
 have HC0_0 := a_ hc0_0
 clear hr0_0 hc0_0
 have HB := a_ (Below.refl w.heap.size w)
 have H := h
 unfold disk_Swap.f at H
 clear h
 obtain ⟨⟨t320, t323, t324, t325⟩, A4, H⟩ := ob_ H
 try dsimp only at H
 obtain ⟨rfl, rfl, rfl, rfl⟩ := so4_ H
 go_enter Try.func74, Try.ntmps74
 go_wp2_with (first | ((with_reducible refine gd_ 3 ?_); refine bz_ 3 #[.slice A0_0 l0_0.length c0_0, .bool a0_1, .int .i64 a0_2] 24 ?_; intro gb318 hg w5 BK318 hb; have GE318 := a_ (bs_0 hg HB); replace HB := hB_ (bl_ HB) hb; clear hb hg) | ((with_reducible refine gd_ 6 ?_); refine bz_ 6 #[.slice none 0 0, .bool false, .int .i64 0] 24 ?_; intro gb319 hg w6 BK319 hb; have GE319 := a_ (bs_1 hg HB GE318); replace HB := hB_ (bl_1 HB GE318) hb; have NB318_319 := nB_ hg BK318; have NB319_318 := nC_ hg BK318; replace BK318 := bB_ BK318 hb; clear hb hg; have := NB318_319.out; have := NB319_318.out; obtain ⟨hcz8_0, hcz8_1, hcz8_2, hfz8_0, hfz8_1, hfz8_2⟩ := c3_ BK318) | ((with_reducible refine gk_ 96 ?_); refine gl_ (some 12) Try.func96 #[.agg #[.slice A0_0 l0_0.length c0_0, .bool a0_1, .int .i64 a0_2], .agg #[.int .u8 3, .string a1, .string a2, .string (⟨#[]⟩ : ByteArray), .int .i64 0]] ?_; (with_reducible refine (disk_done.calls _ _ _ _ _ _ _ _ _ _ _ _ _ _ _ _ ?side1 ?side2 A4.out).mono ?_); (case side1 => exact cl_ (Kd.C_below HR0_0.out HB.out)); (case side2 => exact HC0_0.out); rintro e w9 ⟨v321, rfl, ho0, hb⟩; refine ⟨_, rfl, ?_⟩; have HO322 := a_ (Kd.R_lower ho0 (below_size (bl_2 HB GE318 GE319))); replace BK318 := bB_ BK318 hb; replace BK319 := bB_ BK319 hb; replace HB := hB_ (bl_2 HB GE318 GE319) hb; (try clear hb); (try clear ho0); obtain ⟨Ao10, co10, eo10⟩ := Kd.R_slice HO322.out; subst eo10; obtain ⟨hcz11_0, hcz11_1, hcz11_2, hfz11_0, hfz11_1, hfz11_2⟩ := c3_ BK319))
 refine bodyPost_ret (results_ct rfl _ _ gb319 24 #[.slice Ao10 t320.length co10, .bool t323, .int .i64 t324] (0, 0) _ rfl (bp_0 BK319) Try.underlying24 rfl (by kernel_rfl)) rfl ?_
 exact ⟨_, fz_, by refine rq_ ?_; exact rf1_ HO322 BK319, bl_2 HB GE318 GE319⟩

-- NOT PRINTED: function 73 (hard_Put_3)

-- NOT PRINTED: function 68 (hard_all)

theorem c1_ {w : World} {g : Nat} {t : TypeId} {a0 : Value} (h : Aside0 (w.heap[g]? = some (.cells #[a0] t (0, 0)))) : w.cell? ⟨g, 0, none⟩ = some a0 ∧ w.frozen? ⟨g, 0, none⟩ = false := ⟨(blk_cell h.out 0).trans rfl, blk_frozen h.out 0⟩
theorem hard_Put_1.calls (k gx gy : Nat) (A0_0 : Option Addr) (c0_0 : Nat) (l0_0 : List (S71)) (a0_1 : Bool) (a0_2 : Int) (sx sy : ByteArray) (r1 : List (S71)) (r2 : Bool) (r3 : Int) (r4 : Int) (w : World) (hx : w.heap[gx]? = some (.cells #[.string sx] 9 (0, 0))) (hy : w.heap[gy]? = some (.cells #[.string sy] 9 (0, 0))) (hr0_0 : Kd.C k71 w A0_0 l0_0.length l0_0) (hc0_0 : l0_0.length ≤ c0_0) (h : disk_Add.f k l0_0 a0_1 a0_2 sx sy = some (r1, r2, r3, r4)) :
  Calls Try.prog 69 #[.agg #[.slice A0_0 l0_0.length c0_0, .bool a0_1, .int .i64 a0_2], .pointer (some ⟨gx, 0, none⟩), .pointer (some ⟨gy, 0, none⟩)] w fun e w' => ∃ v0_ : Value, e = .returned (.tuple #[.agg #[v0_, .bool r2, .int .i64 r3], .int .i64 r4]) ∧ Kd.R k71 71 w' w.heap.size (fun _ => True) v0_ r1 ∧ Below w.heap.size w w' := by
 have hu24 := Try.underlying24
 have HR0_0 := a_ hr0_0
 have HC0_0 := a_ hc0_0
 clear hr0_0 hc0_0
 have BX := a_ hx
 clear hx
 have BY := a_ hy
 clear hy
 have HB := a_ (Below.refl w.heap.size w)
 have A4 := a_ h
 clear h
 go_enter Try.func69, Try.ntmps69
 go_wp2_with (first | ((with_reducible refine gd_ 3 ?_); refine bz_ 3 #[.slice A0_0 l0_0.length c0_0, .bool a0_1, .int .i64 a0_2] 24 ?_; intro ga hg w_ BKa hb; have GEa := a_ (bs_0 hg HB ); replace BX := bB_ BX hb; replace BY := bB_ BY hb; replace HB := hB_ (bl_ HB) hb; clear hb hg) | ((with_reducible refine gd_ 4 ?_); refine bz_ 4 #[.slice none 0 0, .bool false, .int .i64 0] 24 ?_; intro gb hg w_ BKb hb; have GEb := a_ (bs_1 hg HB GEa); have NBa_b := nB_ hg BKa; have NBb_a := nC_ hg BKa; replace BX := bB_ BX hb; replace BY := bB_ BY hb; replace BKa := bB_ BKa hb; replace HB := hB_ (bl_1 HB GEa) hb; clear hb hg; have hne := NBa_b.out; have hne2 := NBb_a.out; obtain ⟨hcza_0, hcza_1, hcza_2, hfza_0, hfza_1, hfza_2⟩ := c3_ BKa; obtain ⟨hczx, hfzx⟩ := c1_ BX; obtain ⟨hczy, hfzy⟩ := c1_ BY) | ((with_reducible refine gk_ 70 ?_); refine gl_ (some 9) Try.func70 #[.agg #[.slice A0_0 l0_0.length c0_0, .bool a0_1, .int .i64 a0_2], .string sx, .string sy] ?_; (with_reducible refine (disk_Add.calls _ _ _ _ _ _ sx sy r1 r2 r3 r4 _ ?side1 ?side2 A4.out).mono ?_); (case side1 => exact cl_ (Kd.C_below HR0_0.out HB.out)); (case side2 => exact HC0_0.out); rintro e w9 ⟨v9, rfl, ho0, hb⟩; refine ⟨_, rfl, ?_⟩; have HO := a_ (Kd.R_lower ho0 (below_size (bl_2 HB GEa GEb))); replace BKb := bB_ BKb hb; replace HB := hB_ (bl_2 HB GEa GEb) hb; clear hb ho0; obtain ⟨Ao, co, eo⟩ := Kd.R_slice HO.out; subst eo; obtain ⟨hczb_0, hczb_1, hczb_2, hfzb_0, hfzb_1, hfzb_2⟩ := c3_ BKb))
 refine bodyPost_ret (results_ct rfl _ _ gb 24 #[.slice Ao r1.length co, .bool r2, .int .i64 r3] (0, 0) _ rfl (bp_0 BKb) Try.underlying24 rfl (by kernel_rfl)) rfl ?_
 exact ⟨_, fz_, by refine rq_ ?_; exact rf1_ HO BKb, bl_2 HB GEa GEb⟩

theorem hard_Put_2.calls (k gx : Nat) (A0_0 : Option Addr) (c0_0 : Nat) (l0_0 : List (S71)) (a0_1 : Bool) (a0_2 : Int) (sx : ByteArray) (r1 : List (S71)) (r2 : Bool) (r3 : Int) (r4 : Int) (w : World) (hx : w.heap[gx]? = some (.cells #[.string sx] 9 (0, 0))) (hr0_0 : Kd.C k71 w A0_0 l0_0.length l0_0) (hc0_0 : l0_0.length ≤ c0_0) (h : disk_Sync.f k l0_0 a0_1 a0_2 sx = some (r1, r2, r3, r4)) :
  Calls Try.prog 71 #[.agg #[.slice A0_0 l0_0.length c0_0, .bool a0_1, .int .i64 a0_2], .pointer (some ⟨gx, 0, none⟩)] w fun e w' => ∃ v0_ : Value, e = .returned (.tuple #[.agg #[v0_, .bool r2, .int .i64 r3], .int .i64 r4]) ∧ Kd.R k71 71 w' w.heap.size (fun _ => True) v0_ r1 ∧ Below w.heap.size w w' := by
 have hu24 := Try.underlying24
 have HR0_0 := a_ hr0_0
 have HC0_0 := a_ hc0_0
 clear hr0_0 hc0_0
 have BX := a_ hx
 clear hx
 have HB := a_ (Below.refl w.heap.size w)
 have A4 := a_ h
 clear h
 go_enter Try.func71, Try.ntmps71
 go_wp2_with (first | ((with_reducible refine gd_ 2 ?_); refine bz_ 2 #[.slice A0_0 l0_0.length c0_0, .bool a0_1, .int .i64 a0_2] 24 ?_; intro ga hg w_ BKa hb; have GEa := a_ (bs_0 hg HB ); replace BX := bB_ BX hb; replace HB := hB_ (bl_ HB) hb; clear hb hg) | ((with_reducible refine gd_ 3 ?_); refine bz_ 3 #[.slice none 0 0, .bool false, .int .i64 0] 24 ?_; intro gb hg w_ BKb hb; have GEb := a_ (bs_1 hg HB GEa); have NBa_b := nB_ hg BKa; have NBb_a := nC_ hg BKa; replace BX := bB_ BX hb; replace BKa := bB_ BKa hb; replace HB := hB_ (bl_1 HB GEa) hb; clear hb hg; have hne := NBa_b.out; have hne2 := NBb_a.out; obtain ⟨hcza_0, hcza_1, hcza_2, hfza_0, hfza_1, hfza_2⟩ := c3_ BKa; obtain ⟨hczx, hfzx⟩ := c1_ BX) | ((with_reducible refine gk_ 72 ?_); refine gl_ (some 7) Try.func72 #[.agg #[.slice A0_0 l0_0.length c0_0, .bool a0_1, .int .i64 a0_2], .string sx] ?_; (with_reducible refine (disk_Sync.calls _ _ _ _ _ _ sx r1 r2 r3 r4 _ ?side1 ?side2 A4.out).mono ?_); (case side1 => exact cl_ (Kd.C_below HR0_0.out HB.out)); (case side2 => exact HC0_0.out); rintro e w9 ⟨v9, rfl, ho0, hb⟩; refine ⟨_, rfl, ?_⟩; have HO := a_ (Kd.R_lower ho0 (below_size (bl_2 HB GEa GEb))); replace BKb := bB_ BKb hb; replace HB := hB_ (bl_2 HB GEa GEb) hb; clear hb ho0; obtain ⟨Ao, co, eo⟩ := Kd.R_slice HO.out; subst eo; obtain ⟨hczb_0, hczb_1, hczb_2, hfzb_0, hfzb_1, hfzb_2⟩ := c3_ BKb))
 refine bodyPost_ret (results_ct rfl _ _ gb 24 #[.slice Ao r1.length co, .bool r2, .int .i64 r3] (0, 0) _ rfl (bp_0 BKb) Try.underlying24 rfl (by kernel_rfl)) rfl ?_
 exact ⟨_, fz_, by refine rq_ ?_; exact rf1_ HO BKb, bl_2 HB GEa GEb⟩

theorem hard_Put_3.calls (k gx gy : Nat) (A0_0 : Option Addr) (c0_0 : Nat) (l0_0 : List (S71)) (a0_1 : Bool) (a0_2 : Int) (sx sy : ByteArray) (r1 : List (S71)) (r2 : Bool) (r3 : Int) (r4 : Int) (w : World) (hx : w.heap[gx]? = some (.cells #[.string sx] 9 (0, 0))) (hy : w.heap[gy]? = some (.cells #[.string sy] 9 (0, 0))) (hr0_0 : Kd.C k71 w A0_0 l0_0.length l0_0) (hc0_0 : l0_0.length ≤ c0_0) (h : disk_Swap.f k l0_0 a0_1 a0_2 sx sy = some (r1, r2, r3, r4)) :
  Calls Try.prog 73 #[.agg #[.slice A0_0 l0_0.length c0_0, .bool a0_1, .int .i64 a0_2], .pointer (some ⟨gx, 0, none⟩), .pointer (some ⟨gy, 0, none⟩)] w fun e w' => ∃ v0_ : Value, e = .returned (.tuple #[.agg #[v0_, .bool r2, .int .i64 r3], .int .i64 r4]) ∧ Kd.R k71 71 w' w.heap.size (fun _ => True) v0_ r1 ∧ Below w.heap.size w w' := by
 have hu24 := Try.underlying24
 have HR0_0 := a_ hr0_0
 have HC0_0 := a_ hc0_0
 clear hr0_0 hc0_0
 have BX := a_ hx
 clear hx
 have BY := a_ hy
 clear hy
 have HB := a_ (Below.refl w.heap.size w)
 have A4 := a_ h
 clear h
 go_enter Try.func73, Try.ntmps73
 go_wp2_with (first | ((with_reducible refine gd_ 3 ?_); refine bz_ 3 #[.slice A0_0 l0_0.length c0_0, .bool a0_1, .int .i64 a0_2] 24 ?_; intro ga hg w_ BKa hb; have GEa := a_ (bs_0 hg HB ); replace BX := bB_ BX hb; replace BY := bB_ BY hb; replace HB := hB_ (bl_ HB) hb; clear hb hg) | ((with_reducible refine gd_ 4 ?_); refine bz_ 4 #[.slice none 0 0, .bool false, .int .i64 0] 24 ?_; intro gb hg w_ BKb hb; have GEb := a_ (bs_1 hg HB GEa); have NBa_b := nB_ hg BKa; have NBb_a := nC_ hg BKa; replace BX := bB_ BX hb; replace BY := bB_ BY hb; replace BKa := bB_ BKa hb; replace HB := hB_ (bl_1 HB GEa) hb; clear hb hg; have hne := NBa_b.out; have hne2 := NBb_a.out; obtain ⟨hcza_0, hcza_1, hcza_2, hfza_0, hfza_1, hfza_2⟩ := c3_ BKa; obtain ⟨hczx, hfzx⟩ := c1_ BX; obtain ⟨hczy, hfzy⟩ := c1_ BY) | ((with_reducible refine gk_ 74 ?_); refine gl_ (some 9) Try.func74 #[.agg #[.slice A0_0 l0_0.length c0_0, .bool a0_1, .int .i64 a0_2], .string sx, .string sy] ?_; (with_reducible refine (disk_Swap.calls _ _ _ _ _ _ sx sy r1 r2 r3 r4 _ ?side1 ?side2 A4.out).mono ?_); (case side1 => exact cl_ (Kd.C_below HR0_0.out HB.out)); (case side2 => exact HC0_0.out); rintro e w9 ⟨v9, rfl, ho0, hb⟩; refine ⟨_, rfl, ?_⟩; have HO := a_ (Kd.R_lower ho0 (below_size (bl_2 HB GEa GEb))); replace BKb := bB_ BKb hb; replace HB := hB_ (bl_2 HB GEa GEb) hb; clear hb ho0; obtain ⟨Ao, co, eo⟩ := Kd.R_slice HO.out; subst eo; obtain ⟨hczb_0, hczb_1, hczb_2, hfzb_0, hfzb_1, hfzb_2⟩ := c3_ BKb))
 refine bodyPost_ret (results_ct rfl _ _ gb 24 #[.slice Ao r1.length co, .bool r2, .int .i64 r3] (0, 0) _ rfl (bp_0 BKb) Try.underlying24 rfl (by kernel_rfl)) rfl ?_
 exact ⟨_, fz_, by refine rq_ ?_; exact rf1_ HO BKb, bl_2 HB GEa GEb⟩

def hard_all.s2 (k : Nat) (tm nm : ByteArray) (l : List (S71)) (b : Bool) (i : Int) : Option ((List (S71)) × Bool × Int × Int) := (disk_Swap.f k l b i tm nm).bind fun x => if x.2.2.2 = 0 then some (x.1, x.2.1, x.2.2.1, 0) else some (x.1, x.2.1, x.2.2.1, x.2.2.2)
def hard_all.s1 (k : Nat) (tm nm : ByteArray) (l : List (S71)) (b : Bool) (i : Int) : Option ((List (S71)) × Bool × Int × Int) := (disk_Sync.f k l b i tm).bind fun x => if x.2.2.2 = 0 then hard_all.s2 k tm nm x.1 x.2.1 x.2.2.1 else some (x.1, x.2.1, x.2.2.1, x.2.2.2)
def hard_all.f (k : Nat) (tm nm dt : ByteArray) (l : List (S71)) (b : Bool) (i : Int) : Option ((List (S71)) × Bool × Int × Int) := (disk_Add.f k l b i tm dt).bind fun x => if x.2.2.2 = 0 then hard_all.s1 k tm nm x.1 x.2.1 x.2.2.1 else some (x.1, x.2.1, x.2.2.1, x.2.2.2)
theorem hard_all.mono : ∀ a0 a1 a2 a3 a4 a5 k, LeO (hard_all.f k a0 a1 a2 a3 a4 a5) (hard_all.f (k + 1) a0 a1 a2 a3 a4 a5) := fun a0 a1 a2 a3 a4 a5 k => LeO.bind (disk_Add.mono _ _ _ _ _ k) (fun _ => LeO.ite (LeO.bind (disk_Sync.mono _ _ _ _ k) (fun _ => LeO.ite (LeO.bind (disk_Swap.mono _ _ _ _ _ k) (fun _ => LeO.refl _)) (LeO.refl _))) (LeO.refl _))
theorem hard_all.calls (k gr gt gd gn : Nat) (A0_0 : Option Addr) (c0_0 : Nat) (l0_0 : List (S71)) (a0_1 : Bool) (a0_2 : Int) (tm nm dt : ByteArray) (r1 : List (S71)) (r2 : Bool) (r3 : Int) (r4 : Int) (w : World) (hrow : w.heap[gr]? = some (.cells #[.func (.func 69) #[] #[.pointer (some ⟨gt, 0, none⟩), .pointer (some ⟨gd, 0, none⟩)], .func (.func 71) #[] #[.pointer (some ⟨gt, 0, none⟩)], .func (.func 73) #[] #[.pointer (some ⟨gt, 0, none⟩), .pointer (some ⟨gn, 0, none⟩)]] 95 (0, 0))) (ht : w.heap[gt]? = some (.cells #[.string tm] 9 (0, 0))) (hd : w.heap[gd]? = some (.cells #[.string dt] 9 (0, 0))) (hn : w.heap[gn]? = some (.cells #[.string nm] 9 (0, 0))) (hr0_0 : Kd.C k71 w A0_0 l0_0.length l0_0) (hc0_0 : l0_0.length ≤ c0_0) (h : hard_all.f k tm nm dt l0_0 a0_1 a0_2 = some (r1, r2, r3, r4)) :
  Calls Try.prog 68 #[.agg #[.slice A0_0 l0_0.length c0_0, .bool a0_1, .int .i64 a0_2], .slice (some ⟨gr, 0, none⟩) 3 3] w fun e w' => ∃ v0_ : Value, e = .returned (.tuple #[.agg #[v0_, .bool r2, .int .i64 r3], .int .i64 r4]) ∧ Kd.R k71 71 w' w.heap.size (fun _ => True) v0_ r1 ∧ Below w.heap.size w w' := by
 have hu24 := Try.underlying24
 have HR0_0 := a_ hr0_0
 have HC0_0 := a_ hc0_0
 clear hr0_0 hc0_0
 have BR := a_ hrow
 have BT := a_ ht
 have BD := a_ hd
 have BN := a_ hn
 clear hrow ht hd hn
 have HB := a_ (Below.refl w.heap.size w)
 have H' := a_ h
 clear h
 go_enter Try.func68, Try.ntmps68
 go_wp2_with (first | ((with_reducible refine gd_ 2 ?_); refine bz_ 2 #[.slice A0_0 l0_0.length c0_0, .bool a0_1, .int .i64 a0_2] 24 ?_; intro ga hg w_ BKa hb; have GEa := a_ (bs_0 hg HB ); have NBr_a := nB_ hg BR; have NBt_a := nB_ hg BT; have NBd_a := nB_ hg BD; have NBn_a := nB_ hg BN; replace BR := bB_ BR hb; replace BT := bB_ BT hb; replace BD := bB_ BD hb; replace BN := bB_ BN hb; replace HB := hB_ (bl_ HB) hb; clear hb hg) | ((with_reducible refine gd_ 4 ?_); refine bz_ 4 #[.slice none 0 0, .bool false, .int .i64 0] 24 ?_; intro gb hg w_ BKb hb; have GEb := a_ (bs_1 hg HB GEa); have NBa_b := nB_ hg BKa; have NBb_a := nC_ hg BKa; replace BR := bB_ BR hb; replace BT := bB_ BT hb; replace BD := bB_ BD hb; replace BN := bB_ BN hb; replace BKa := bB_ BKa hb; replace HB := hB_ (bl_1 HB GEa) hb; clear hb hg))
 go_loopg [12] 4 (fun kq v12 w' => Aside0 (w'.heap[gr]? = some (.cells #[.func (.func 69) #[] #[.pointer (some ⟨gt, 0, none⟩), .pointer (some ⟨gd, 0, none⟩)], .func (.func 71) #[] #[.pointer (some ⟨gt, 0, none⟩)], .func (.func 73) #[] #[.pointer (some ⟨gt, 0, none⟩), .pointer (some ⟨gn, 0, none⟩)]] 95 (0, 0))) ∧ Aside0 (w'.heap[gt]? = some (.cells #[.string tm] 9 (0, 0))) ∧ Aside0 (w'.heap[gd]? = some (.cells #[.string dt] 9 (0, 0))) ∧ Aside0 (w'.heap[gn]? = some (.cells #[.string nm] 9 (0, 0))) ∧ Aside0 (w'.heap[gb]? = some (.cells #[.slice none 0 0, .bool false, .int .i64 0] 24 (0, 0))) ∧ Aside0 (Below w.heap.size w w') ∧ ((kq = 4 ∧ v12 = .int .i64 0 ∧ Aside0 (w'.heap[ga]? = some (.cells #[.slice A0_0 l0_0.length c0_0, .bool a0_1, .int .i64 a0_2] 24 (0, 0)))) ∨ (kq = 3 ∧ v12 = .int .i64 1 ∧ ∃ (v_ : Value) (l_ : List (S71)) (b_ : Bool) (i_ : Int), Aside0 (w'.heap[ga]? = some (.cells #[v_, .bool b_, .int .i64 i_] 24 (0, 0))) ∧ Aside0 (Kd.R k71 71 w' w.heap.size (fun _ => True) v_ l_) ∧ Aside0 (hard_all.s1 k tm nm l_ b_ i_ = some (r1, r2, r3, r4))) ∨ (kq = 2 ∧ v12 = .int .i64 2 ∧ ∃ (v_ : Value) (l_ : List (S71)) (b_ : Bool) (i_ : Int), Aside0 (w'.heap[ga]? = some (.cells #[v_, .bool b_, .int .i64 i_] 24 (0, 0))) ∧ Aside0 (Kd.R k71 71 w' w.heap.size (fun _ => True) v_ l_) ∧ Aside0 (hard_all.s2 k tm nm l_ b_ i_ = some (r1, r2, r3, r4))) ∨ (kq = 1 ∧ v12 = .int .i64 3 ∧ ∃ (v_ : Value) (l_ : List (S71)) (b_ : Bool) (i_ : Int), Aside0 (w'.heap[ga]? = some (.cells #[v_, .bool b_, .int .i64 i_] 24 (0, 0))) ∧ Aside0 (Kd.R k71 71 w' w.heap.size (fun _ => True) v_ l_) ∧ Aside0 (some (l_, b_, i_, 0) = some (r1, r2, r3, r4)))))
 case atStart => exact ⟨⟨bk_ BR⟩, ⟨bk_ BT⟩, ⟨bk_ BD⟩, ⟨bk_ BN⟩, ⟨bk_ BKb⟩, ⟨bl_2 HB GEa GEb⟩, .inl ⟨rfl, by first | rfl | (simp; done), ⟨bk_ BKa⟩⟩⟩
 case round =>
  clear HB BR BT BD BN BKa BKb
  obtain ⟨BR, BT, BD, BN, BKb, HB, hst⟩ := hrel
  rcases hst with ⟨rfl, rfl, BKa⟩ | ⟨rfl, rfl, v_, l_, b_, i_, BKa, HO, H1⟩ | ⟨rfl, rfl, v_, l_, b_, i_, BKa, HO, H1⟩ | ⟨rfl, rfl, v_, l_, b_, i_, BKa, HO, H1⟩
  · obtain ⟨⟨x1, x2, x3, x4⟩, A10, H⟩ := Option.bind_eq_some_iff.mp (show (disk_Add.f k l0_0 a0_1 a0_2 tm dt).bind _ = some _ from H'.out)
    have A1 := a_ A10
    clear A10 H'
    try dsimp only at H
    obtain ⟨hca_0, hca_1, hca_2, hfa_0, hfa_1, hfa_2⟩ := c3_ BKa
    have hcr := (blk_cell BR.out 0).trans rfl
    by_cases c4 : x4 = 0
    ·rw [if_pos c4] at H
     obtain ⟨c4b0, c4b1⟩ := be_ c4
     clear c4
     have H2 := a_ H
     clear H
     go_wp2_with (first | (go_at_call 69; (with_reducible refine (hard_Put_1.calls _ gt gd A0_0 c0_0 _ _ _ tm dt _ _ _ _ _ ?bx ?bz ?s1 ?s2 A1.out).mono ?_); (case bx => exact bk_ BT); (case bz => exact bk_ BD); (case s1 => exact cl_ (Kd.C_below HR0_0.out HB.out)); (case s2 => exact HC0_0.out); rintro e w9 ⟨v9, rfl, ho0, hb⟩; have HO9 := a_ (Kd.R_lower ho0 (below_size (bl_2 HB GEa GEb))); replace BR := bB_ BR hb; replace BT := bB_ BT hb; replace BD := bB_ BD hb; replace BN := bB_ BN hb; replace BKa := bB_ BKa hb; replace BKb := bB_ BKb hb; replace HB := hB_ (bl_2 HB GEa GEb) hb; clear hb ho0; obtain ⟨A9, c9, e9⟩ := Kd.R_slice HO9.out; subst e9) | ((with_reducible refine gd_ 8 ?_); refine bz_ 8 #[.slice none 0 0, .bool false, .int .i64 0] 24 ?_; intro gc hg w_ BKc hb; have GEc := a_ (bs_2 hg HB GEa GEb); have NBa_c := nB_ hg BKa; have NBc_a := nC_ hg BKa; have NBb_c := nB_ hg BKb; have NBc_b := nC_ hg BKb; have NBr_c := nB_ hg BR; have NBt_c := nB_ hg BT; have NBd_c := nB_ hg BD; have NBn_c := nB_ hg BN; replace BR := bB_ BR hb; replace BT := bB_ BT hb; replace BD := bB_ BD hb; replace BN := bB_ BN hb; replace BKa := bB_ BKa hb; replace BKb := bB_ BKb hb; replace HO9 := rb_ HO9 hb; replace HB := hB_ (bl_2 HB GEa GEb) hb; clear hb hg; have hn1 := NBa_c.out; have hn2 := NBc_a.out; have hn3 := NBb_c.out; have hn4 := NBc_b.out; have hn5 := NBa_b.out; have hn6 := NBb_a.out; clear hca_0 hca_1 hca_2 hfa_0 hfa_1 hfa_2 hcr; obtain ⟨hcza_0, hcza_1, hcza_2, hfza_0, hfza_1, hfza_2⟩ := c3_ BKa; obtain ⟨hczb_0, hczb_1, hczb_2, hfzb_0, hfzb_1, hfzb_2⟩ := c3_ BKb; obtain ⟨hczc_0, hczc_1, hczc_2, hfzc_0, hfzc_1, hfzc_2⟩ := c3_ BKc))
     go_roundg 3
     case measure => omega
     case rel => exact ⟨⟨bp_2 BR NBr_a NBr_c⟩, ⟨bp_2 BT NBt_a NBt_c⟩, ⟨bp_2 BD NBd_a NBd_c⟩, ⟨bp_2 BN NBn_a NBn_c⟩, ⟨bp_2 BKb NBb_a NBb_c⟩, ⟨bl_3 HB GEa GEb GEc⟩, .inr (.inl ⟨rfl, by first | rfl | (simp; done), _, x1, x2, x3, ⟨bp_1 BKa NBa_c⟩, ⟨by refine rq_ ?_; exact rf2_ HO9 BKa BKc⟩, H2⟩)⟩
    rw [if_neg c4] at H
    obtain ⟨c4b0, c4b1⟩ := bn_ c4
    clear c4
    obtain ⟨rfl, rfl, rfl, rfl⟩ := so4_ H
    go_wp2_with (first | (go_at_call 69; (with_reducible refine (hard_Put_1.calls _ gt gd A0_0 c0_0 _ _ _ tm dt _ _ _ _ _ ?bx ?bz ?s1 ?s2 A1.out).mono ?_); (case bx => exact bk_ BT); (case bz => exact bk_ BD); (case s1 => exact cl_ (Kd.C_below HR0_0.out HB.out)); (case s2 => exact HC0_0.out); rintro e w9 ⟨v9, rfl, ho0, hb⟩; have HO9 := a_ (Kd.R_lower ho0 (below_size (bl_2 HB GEa GEb))); replace BR := bB_ BR hb; replace BT := bB_ BT hb; replace BD := bB_ BD hb; replace BN := bB_ BN hb; replace BKa := bB_ BKa hb; replace BKb := bB_ BKb hb; replace HB := hB_ (bl_2 HB GEa GEb) hb; clear hb ho0; obtain ⟨A9, c9, e9⟩ := Kd.R_slice HO9.out; subst e9) | ((with_reducible refine gd_ 8 ?_); refine bz_ 8 #[.slice none 0 0, .bool false, .int .i64 0] 24 ?_; intro gc hg w_ BKc hb; have GEc := a_ (bs_2 hg HB GEa GEb); have NBa_c := nB_ hg BKa; have NBc_a := nC_ hg BKa; have NBb_c := nB_ hg BKb; have NBc_b := nC_ hg BKb; have NBr_c := nB_ hg BR; have NBt_c := nB_ hg BT; have NBd_c := nB_ hg BD; have NBn_c := nB_ hg BN; replace BR := bB_ BR hb; replace BT := bB_ BT hb; replace BD := bB_ BD hb; replace BN := bB_ BN hb; replace BKa := bB_ BKa hb; replace BKb := bB_ BKb hb; replace HO9 := rb_ HO9 hb; replace HB := hB_ (bl_2 HB GEa GEb) hb; clear hb hg; have hn1 := NBa_c.out; have hn2 := NBc_a.out; have hn3 := NBb_c.out; have hn4 := NBc_b.out; have hn5 := NBa_b.out; have hn6 := NBb_a.out; clear hca_0 hca_1 hca_2 hfa_0 hfa_1 hfa_2 hcr; obtain ⟨hcza_0, hcza_1, hcza_2, hfza_0, hfza_1, hfza_2⟩ := c3_ BKa; obtain ⟨hczb_0, hczb_1, hczb_2, hfzb_0, hfzb_1, hfzb_2⟩ := c3_ BKb; obtain ⟨hczc_0, hczc_1, hczc_2, hfzc_0, hfzc_1, hfzc_2⟩ := c3_ BKc))
    refine bodyPost_ret (results_ct rfl _ _ gb 24 #[.slice A9 x1.length c9, .bool x2, .int .i64 x3] (0, 0) _ rfl (bp_1 BKb NBb_c) Try.underlying24 rfl (by kernel_rfl)) rfl ?_
    exact ⟨_, fz_, by refine rq_ ?_; exact rf2_ HO9 BKb BKc, bl_3 HB GEa GEb GEc⟩
  · obtain ⟨⟨x1, x2, x3, x4⟩, A10, H⟩ := Option.bind_eq_some_iff.mp (show (disk_Sync.f k l_ b_ i_ tm).bind _ = some _ from H1.out)
    have A1 := a_ A10
    clear A10 H' H1
    try dsimp only at H
    obtain ⟨Ao, co, eo⟩ := Kd.R_slice HO.out
    subst eo
    obtain ⟨hca_0, hca_1, hca_2, hfa_0, hfa_1, hfa_2⟩ := c3_ BKa
    have hcr := (blk_cell BR.out 1).trans rfl
    by_cases c4 : x4 = 0
    ·rw [if_pos c4] at H
     obtain ⟨c4b0, c4b1⟩ := be_ c4
     clear c4
     have H2 := a_ H
     clear H
     go_wp2_with (first | (go_at_call 71; (with_reducible refine (hard_Put_2.calls _ gt Ao co l_ b_ i_ tm _ _ _ _ _ ?bx ?s1 ?s2 A1.out).mono ?_); (case bx => exact bk_ BT); (case s1 => exact cl_ ((Kd.R_reads' HO.out).2.2)); (case s2 => exact (Kd.R_reads' HO.out).2.1); rintro e w9 ⟨v9, rfl, ho0, hb⟩; have HO9 := a_ (Kd.R_lower ho0 (below_size (bl_2 HB GEa GEb))); replace BR := bB_ BR hb; replace BT := bB_ BT hb; replace BD := bB_ BD hb; replace BN := bB_ BN hb; replace BKa := bB_ BKa hb; replace BKb := bB_ BKb hb; replace HB := hB_ (bl_2 HB GEa GEb) hb; clear hb ho0; obtain ⟨A9, c9, e9⟩ := Kd.R_slice HO9.out; subst e9) | ((with_reducible refine gd_ 8 ?_); refine bz_ 8 #[.slice none 0 0, .bool false, .int .i64 0] 24 ?_; intro gc hg w_ BKc hb; have GEc := a_ (bs_2 hg HB GEa GEb); have NBa_c := nB_ hg BKa; have NBc_a := nC_ hg BKa; have NBb_c := nB_ hg BKb; have NBc_b := nC_ hg BKb; have NBr_c := nB_ hg BR; have NBt_c := nB_ hg BT; have NBd_c := nB_ hg BD; have NBn_c := nB_ hg BN; replace BR := bB_ BR hb; replace BT := bB_ BT hb; replace BD := bB_ BD hb; replace BN := bB_ BN hb; replace BKa := bB_ BKa hb; replace BKb := bB_ BKb hb; replace HO9 := rb_ HO9 hb; replace HB := hB_ (bl_2 HB GEa GEb) hb; clear hb hg; have hn1 := NBa_c.out; have hn2 := NBc_a.out; have hn3 := NBb_c.out; have hn4 := NBc_b.out; have hn5 := NBa_b.out; have hn6 := NBb_a.out; clear hca_0 hca_1 hca_2 hfa_0 hfa_1 hfa_2 hcr; obtain ⟨hcza_0, hcza_1, hcza_2, hfza_0, hfza_1, hfza_2⟩ := c3_ BKa; obtain ⟨hczb_0, hczb_1, hczb_2, hfzb_0, hfzb_1, hfzb_2⟩ := c3_ BKb; obtain ⟨hczc_0, hczc_1, hczc_2, hfzc_0, hfzc_1, hfzc_2⟩ := c3_ BKc))
     go_roundg 2
     case measure => omega
     case rel => exact ⟨⟨bp_2 BR NBr_a NBr_c⟩, ⟨bp_2 BT NBt_a NBt_c⟩, ⟨bp_2 BD NBd_a NBd_c⟩, ⟨bp_2 BN NBn_a NBn_c⟩, ⟨bp_2 BKb NBb_a NBb_c⟩, ⟨bl_3 HB GEa GEb GEc⟩, .inr (.inr (.inl ⟨rfl, by first | rfl | (simp; done), _, x1, x2, x3, ⟨bp_1 BKa NBa_c⟩, ⟨by refine rq_ ?_; exact rf2_ HO9 BKa BKc⟩, H2⟩))⟩
    rw [if_neg c4] at H
    obtain ⟨c4b0, c4b1⟩ := bn_ c4
    clear c4
    obtain ⟨rfl, rfl, rfl, rfl⟩ := so4_ H
    go_wp2_with (first | (go_at_call 71; (with_reducible refine (hard_Put_2.calls _ gt Ao co l_ b_ i_ tm _ _ _ _ _ ?bx ?s1 ?s2 A1.out).mono ?_); (case bx => exact bk_ BT); (case s1 => exact cl_ ((Kd.R_reads' HO.out).2.2)); (case s2 => exact (Kd.R_reads' HO.out).2.1); rintro e w9 ⟨v9, rfl, ho0, hb⟩; have HO9 := a_ (Kd.R_lower ho0 (below_size (bl_2 HB GEa GEb))); replace BR := bB_ BR hb; replace BT := bB_ BT hb; replace BD := bB_ BD hb; replace BN := bB_ BN hb; replace BKa := bB_ BKa hb; replace BKb := bB_ BKb hb; replace HB := hB_ (bl_2 HB GEa GEb) hb; clear hb ho0; obtain ⟨A9, c9, e9⟩ := Kd.R_slice HO9.out; subst e9) | ((with_reducible refine gd_ 8 ?_); refine bz_ 8 #[.slice none 0 0, .bool false, .int .i64 0] 24 ?_; intro gc hg w_ BKc hb; have GEc := a_ (bs_2 hg HB GEa GEb); have NBa_c := nB_ hg BKa; have NBc_a := nC_ hg BKa; have NBb_c := nB_ hg BKb; have NBc_b := nC_ hg BKb; have NBr_c := nB_ hg BR; have NBt_c := nB_ hg BT; have NBd_c := nB_ hg BD; have NBn_c := nB_ hg BN; replace BR := bB_ BR hb; replace BT := bB_ BT hb; replace BD := bB_ BD hb; replace BN := bB_ BN hb; replace BKa := bB_ BKa hb; replace BKb := bB_ BKb hb; replace HO9 := rb_ HO9 hb; replace HB := hB_ (bl_2 HB GEa GEb) hb; clear hb hg; have hn1 := NBa_c.out; have hn2 := NBc_a.out; have hn3 := NBb_c.out; have hn4 := NBc_b.out; have hn5 := NBa_b.out; have hn6 := NBb_a.out; clear hca_0 hca_1 hca_2 hfa_0 hfa_1 hfa_2 hcr; obtain ⟨hcza_0, hcza_1, hcza_2, hfza_0, hfza_1, hfza_2⟩ := c3_ BKa; obtain ⟨hczb_0, hczb_1, hczb_2, hfzb_0, hfzb_1, hfzb_2⟩ := c3_ BKb; obtain ⟨hczc_0, hczc_1, hczc_2, hfzc_0, hfzc_1, hfzc_2⟩ := c3_ BKc))
    refine bodyPost_ret (results_ct rfl _ _ gb 24 #[.slice A9 x1.length c9, .bool x2, .int .i64 x3] (0, 0) _ rfl (bp_1 BKb NBb_c) Try.underlying24 rfl (by kernel_rfl)) rfl ?_
    exact ⟨_, fz_, by refine rq_ ?_; exact rf2_ HO9 BKb BKc, bl_3 HB GEa GEb GEc⟩
  · obtain ⟨⟨x1, x2, x3, x4⟩, A10, H⟩ := Option.bind_eq_some_iff.mp (show (disk_Swap.f k l_ b_ i_ tm nm).bind _ = some _ from H1.out)
    have A1 := a_ A10
    clear A10 H' H1
    try dsimp only at H
    obtain ⟨Ao, co, eo⟩ := Kd.R_slice HO.out
    subst eo
    obtain ⟨hca_0, hca_1, hca_2, hfa_0, hfa_1, hfa_2⟩ := c3_ BKa
    have hcr := (blk_cell BR.out 2).trans rfl
    by_cases c4 : x4 = 0
    ·rw [if_pos c4] at H
     obtain ⟨c4b0, c4b1⟩ := be_ c4
     clear c4
     have H2 := a_ H
     clear H
     go_wp2_with (first | (go_at_call 73; (with_reducible refine (hard_Put_3.calls _ gt gn Ao co l_ b_ i_ tm nm _ _ _ _ _ ?bx ?bz ?s1 ?s2 A1.out).mono ?_); (case bx => exact bk_ BT); (case bz => exact bk_ BN); (case s1 => exact cl_ ((Kd.R_reads' HO.out).2.2)); (case s2 => exact (Kd.R_reads' HO.out).2.1); rintro e w9 ⟨v9, rfl, ho0, hb⟩; have HO9 := a_ (Kd.R_lower ho0 (below_size (bl_2 HB GEa GEb))); replace BR := bB_ BR hb; replace BT := bB_ BT hb; replace BD := bB_ BD hb; replace BN := bB_ BN hb; replace BKa := bB_ BKa hb; replace BKb := bB_ BKb hb; replace HB := hB_ (bl_2 HB GEa GEb) hb; clear hb ho0; obtain ⟨A9, c9, e9⟩ := Kd.R_slice HO9.out; subst e9) | ((with_reducible refine gd_ 8 ?_); refine bz_ 8 #[.slice none 0 0, .bool false, .int .i64 0] 24 ?_; intro gc hg w_ BKc hb; have GEc := a_ (bs_2 hg HB GEa GEb); have NBa_c := nB_ hg BKa; have NBc_a := nC_ hg BKa; have NBb_c := nB_ hg BKb; have NBc_b := nC_ hg BKb; have NBr_c := nB_ hg BR; have NBt_c := nB_ hg BT; have NBd_c := nB_ hg BD; have NBn_c := nB_ hg BN; replace BR := bB_ BR hb; replace BT := bB_ BT hb; replace BD := bB_ BD hb; replace BN := bB_ BN hb; replace BKa := bB_ BKa hb; replace BKb := bB_ BKb hb; replace HO9 := rb_ HO9 hb; replace HB := hB_ (bl_2 HB GEa GEb) hb; clear hb hg; have hn1 := NBa_c.out; have hn2 := NBc_a.out; have hn3 := NBb_c.out; have hn4 := NBc_b.out; have hn5 := NBa_b.out; have hn6 := NBb_a.out; clear hca_0 hca_1 hca_2 hfa_0 hfa_1 hfa_2 hcr; obtain ⟨hcza_0, hcza_1, hcza_2, hfza_0, hfza_1, hfza_2⟩ := c3_ BKa; obtain ⟨hczb_0, hczb_1, hczb_2, hfzb_0, hfzb_1, hfzb_2⟩ := c3_ BKb; obtain ⟨hczc_0, hczc_1, hczc_2, hfzc_0, hfzc_1, hfzc_2⟩ := c3_ BKc))
     go_roundg 1
     case measure => omega
     case rel => exact ⟨⟨bp_2 BR NBr_a NBr_c⟩, ⟨bp_2 BT NBt_a NBt_c⟩, ⟨bp_2 BD NBd_a NBd_c⟩, ⟨bp_2 BN NBn_a NBn_c⟩, ⟨bp_2 BKb NBb_a NBb_c⟩, ⟨bl_3 HB GEa GEb GEc⟩, .inr (.inr (.inr ⟨rfl, by first | rfl | (simp; done), _, x1, x2, x3, ⟨bp_1 BKa NBa_c⟩, ⟨by refine rq_ ?_; exact rf2_ HO9 BKa BKc⟩, H2⟩))⟩
    rw [if_neg c4] at H
    obtain ⟨c4b0, c4b1⟩ := bn_ c4
    clear c4
    obtain ⟨rfl, rfl, rfl, rfl⟩ := so4_ H
    go_wp2_with (first | (go_at_call 73; (with_reducible refine (hard_Put_3.calls _ gt gn Ao co l_ b_ i_ tm nm _ _ _ _ _ ?bx ?bz ?s1 ?s2 A1.out).mono ?_); (case bx => exact bk_ BT); (case bz => exact bk_ BN); (case s1 => exact cl_ ((Kd.R_reads' HO.out).2.2)); (case s2 => exact (Kd.R_reads' HO.out).2.1); rintro e w9 ⟨v9, rfl, ho0, hb⟩; have HO9 := a_ (Kd.R_lower ho0 (below_size (bl_2 HB GEa GEb))); replace BR := bB_ BR hb; replace BT := bB_ BT hb; replace BD := bB_ BD hb; replace BN := bB_ BN hb; replace BKa := bB_ BKa hb; replace BKb := bB_ BKb hb; replace HB := hB_ (bl_2 HB GEa GEb) hb; clear hb ho0; obtain ⟨A9, c9, e9⟩ := Kd.R_slice HO9.out; subst e9) | ((with_reducible refine gd_ 8 ?_); refine bz_ 8 #[.slice none 0 0, .bool false, .int .i64 0] 24 ?_; intro gc hg w_ BKc hb; have GEc := a_ (bs_2 hg HB GEa GEb); have NBa_c := nB_ hg BKa; have NBc_a := nC_ hg BKa; have NBb_c := nB_ hg BKb; have NBc_b := nC_ hg BKb; have NBr_c := nB_ hg BR; have NBt_c := nB_ hg BT; have NBd_c := nB_ hg BD; have NBn_c := nB_ hg BN; replace BR := bB_ BR hb; replace BT := bB_ BT hb; replace BD := bB_ BD hb; replace BN := bB_ BN hb; replace BKa := bB_ BKa hb; replace BKb := bB_ BKb hb; replace HO9 := rb_ HO9 hb; replace HB := hB_ (bl_2 HB GEa GEb) hb; clear hb hg; have hn1 := NBa_c.out; have hn2 := NBc_a.out; have hn3 := NBb_c.out; have hn4 := NBc_b.out; have hn5 := NBa_b.out; have hn6 := NBb_a.out; clear hca_0 hca_1 hca_2 hfa_0 hfa_1 hfa_2 hcr; obtain ⟨hcza_0, hcza_1, hcza_2, hfza_0, hfza_1, hfza_2⟩ := c3_ BKa; obtain ⟨hczb_0, hczb_1, hczb_2, hfzb_0, hfzb_1, hfzb_2⟩ := c3_ BKb; obtain ⟨hczc_0, hczc_1, hczc_2, hfzc_0, hfzc_1, hfzc_2⟩ := c3_ BKc))
    refine bodyPost_ret (results_ct rfl _ _ gb 24 #[.slice A9 x1.length c9, .bool x2, .int .i64 x3] (0, 0) _ rfl (bp_1 BKb NBb_c) Try.underlying24 rfl (by kernel_rfl)) rfl ?_
    exact ⟨_, fz_, by refine rq_ ?_; exact rf2_ HO9 BKb BKc, bl_3 HB GEa GEb GEc⟩
  · have H := H1.out
    clear H1 H'
    obtain ⟨rfl, rfl, rfl, rfl⟩ := so4_ H
    obtain ⟨Ao, co, eo⟩ := Kd.R_slice HO.out
    subst eo
    obtain ⟨hca_0, hca_1, hca_2, hfa_0, hfa_1, hfa_2⟩ := c3_ BKa
    obtain ⟨hcb_0, hcb_1, hcb_2, hfb_0, hfb_1, hfb_2⟩ := c3_ BKb
    have hn1 := NBa_b.out
    have hn2 := NBb_a.out
    go_wp2
    refine bodyPost_ret (results_ct rfl _ _ gb 24 #[.slice Ao l_.length co, .bool b_, .int .i64 i_] (0, 0) _ rfl (bp_0 BKb) Try.underlying24 rfl (by kernel_rfl)) rfl ?_
    exact ⟨_, fz_, by refine rq_ ?_; exact rf1_ HO BKb, bl_2 HB GEa GEb⟩

def hard_Put.f (k : Nat) (l0_0 : List (S71)) (a0_1 : Bool) (a0_2 : Int) (nm dt : ByteArray) : Option ((List (S71)) × Bool × Int × Int) := if nm.size + 4 ≤ 9223372036854775807 then ((disk_Read.f k l0_0 a0_1 a0_2 (nm ++ (⟨#[46, 116, 109, 112]⟩ : ByteArray))).bind fun t => if t.2 = 0 then ((disk_Drop.f k l0_0 a0_1 a0_2 (nm ++ (⟨#[46, 116, 109, 112]⟩ : ByteArray))).bind fun x => if x.2.2.2 = 0 then hard_all.f k (nm ++ (⟨#[46, 116, 109, 112]⟩ : ByteArray)) nm dt x.1 x.2.1 x.2.2.1 else some (x.1, x.2.1, x.2.2.1, x.2.2.2)) else hard_all.f k (nm ++ (⟨#[46, 116, 109, 112]⟩ : ByteArray)) nm dt l0_0 a0_1 a0_2) else none
theorem hard_Put.mono : ∀ a0 a1 a2 a3 a4 k, LeO (hard_Put.f k a0 a1 a2 a3 a4) (hard_Put.f (k + 1) a0 a1 a2 a3 a4) := fun a0 a1 a2 a3 a4 k => LeO.ite (LeO.bind (disk_Read.mono _ _ _ _ k) (fun _ => LeO.ite (LeO.bind (disk_Drop.mono _ _ _ _ k) (fun _ => LeO.ite (hard_all.mono _ _ _ _ _ _ k) (LeO.refl _))) (hard_all.mono _ _ _ _ _ _ k))) (LeO.none _)
theorem slice_event_ {P : Program} {ops : Array Oper} {rest : List Oper} {o : Oper} {a : Act} {Q : Exit → Act → World → Prop} {W : World} (hgd : o.guard = none) {N : Tmp} (_hd : o.dst = some N) {cs : Array Value} {t : TypeId} {m c : Nat}
    (hrun : (execOp a.eval o).run P W = .ok (.value (.slice (some ⟨W.heap.size, 0, none⟩) m c)) (W.alloc (.cells cs t (0, 0))))
    (h : ∀ g, g = W.heap.size → ∀ w1, w1.heap[g]? = some (.cells cs t (0, 0)) → Below W.heap.size W w1 → wpList P ops Q rest (a.put o.dst (.slice (some ⟨g, 0, none⟩) m c)) w1) : wpList P ops Q (o :: rest) a W := Kd.event_run hgd hrun (h _ rfl _ (blk_new W _) (below_alloc (Below.refl _ _) _))
theorem hard_Put.calls (k : Nat) (A0_0 : Option Addr) (c0_0 : Nat) (l0_0 : List (S71)) (a0_1 : Bool) (a0_2 : Int) (nm dt : ByteArray) (r1 : List (S71)) (r2 : Bool) (r3 : Int) (r4 : Int) (w : World) (hr0_0 : Kd.C k71 w A0_0 l0_0.length l0_0) (hc0_0 : l0_0.length ≤ c0_0) (h : hard_Put.f k l0_0 a0_1 a0_2 nm dt = some (r1, r2, r3, r4)) :
  Calls Try.prog 45 #[.agg #[.slice A0_0 l0_0.length c0_0, .bool a0_1, .int .i64 a0_2], .string nm, .string dt] w fun e w' => ∃ v0_ : Value, e = .returned (.tuple #[.agg #[v0_, .bool r2, .int .i64 r3], .int .i64 r4]) ∧ Kd.R k71 71 w' w.heap.size (fun _ => True) v0_ r1 ∧ Below w.heap.size w w' := by
 have hu24 := Try.underlying24
 have HR0_0 := a_ hr0_0
 have HC0_0 := a_ hc0_0
 clear hr0_0 hc0_0
 have HB := a_ (Below.refl w.heap.size w)
 have H : (if nm.size + 4 ≤ 9223372036854775807 then ((disk_Read.f k l0_0 a0_1 a0_2 (nm ++ (⟨#[46, 116, 109, 112]⟩ : ByteArray))).bind fun t => if t.2 = 0 then ((disk_Drop.f k l0_0 a0_1 a0_2 (nm ++ (⟨#[46, 116, 109, 112]⟩ : ByteArray))).bind fun x => if x.2.2.2 = 0 then hard_all.f k (nm ++ (⟨#[46, 116, 109, 112]⟩ : ByteArray)) nm dt x.1 x.2.1 x.2.2.1 else some (x.1, x.2.1, x.2.2.1, x.2.2.2)) else hard_all.f k (nm ++ (⟨#[46, 116, 109, 112]⟩ : ByteArray)) nm dt l0_0 a0_1 a0_2) else none) = some (r1, r2, r3, r4) := h
 clear h
 by_cases c3 : nm.size + 4 ≤ 9223372036854775807
 case neg =>
  rw [if_neg c3] at H
  exact absurd H (by simp)
 case pos =>
  rw [if_pos c3] at H
  have c3b0 := eq_true c3
  have c3b1 : decide (nm.size + 4 ≤ 9223372036854775807) = true := decide_eq_true c3
  have c3b2 : (9223372036854775807 < nm.size + 4) = False := eq_false (Nat.not_lt.2 c3)
  clear c3
  obtain ⟨⟨t1, t2⟩, A10, H⟩ := Option.bind_eq_some_iff.mp H
  have A1 := a_ A10
  clear A10
  by_cases c4 : t2 = 0
  case neg =>
   replace H : hard_all.f k (nm ++ (⟨#[46, 116, 109, 112]⟩ : ByteArray)) nm dt l0_0 a0_1 a0_2 = some (r1, r2, r3, r4) := by rw [if_neg c4] at H; exact H
   obtain ⟨c4b0, c4b1⟩ := bn_ c4
   clear c4
   have A3 := a_ H
   clear H
   go_enter Try.func45, Try.ntmps45
   go_wp2_with (first | ((with_reducible refine gd_ 3 ?_); refine bz_ 3 #[.slice A0_0 l0_0.length c0_0, .bool a0_1, .int .i64 a0_2] 24 ?_; intro ga hg w_ BKa hb; have GEa := a_ (bs_0 hg HB ); replace HB := hB_ (bl_ HB) hb; clear hb hg) | ((with_reducible refine gd_ 4 ?_); refine bz_ 4 #[.string nm] 9 ?_; intro gn hg w_ BKn hb; have GEn := a_ (bs_1 hg HB GEa); have NBn_a := nC_ hg BKa; replace BKa := bB_ BKa hb; replace HB := hB_ (bl_1 HB GEa) hb; clear hb hg) | ((with_reducible refine gd_ 5 ?_); refine bz_ 5 #[.string dt] 9 ?_; intro gy hg w_ BKy hb; have GEy := a_ (bs_2 hg HB GEa GEn); have NBy_a := nC_ hg BKa; replace BKa := bB_ BKa hb; replace BKn := bB_ BKn hb; replace HB := hB_ (bl_2 HB GEa GEn) hb; clear hb hg) | ((with_reducible refine gd_ 6 ?_); refine bz_ 6 #[.slice none 0 0, .bool false, .int .i64 0] 24 ?_; intro gr hg w_ BKr hb; have GEr := a_ (bs_3 hg HB GEa GEn GEy); have NBr_a := nC_ hg BKa; replace BKa := bB_ BKa hb; replace BKn := bB_ BKn hb; replace BKy := bB_ BKy hb; replace HB := hB_ (bl_3 HB GEa GEn GEy) hb; clear hb hg; obtain ⟨hczn, hfzn⟩ := c1_ BKn) | ((with_reducible refine gd_ 8 ?_); refine bz_ 8 #[.string (⟨#[]⟩ : ByteArray)] 9 ?_; intro gt hg w_ BKt hb; have GEt := a_ (bs_4 hg HB GEa GEn GEy GEr); have NBa_t := nB_ hg BKa; have NBt_a := nC_ hg BKa; have NBn_t := nB_ hg BKn; have NBt_n := nC_ hg BKn; have NBy_t := nB_ hg BKy; have NBt_y := nC_ hg BKy; have NBr_t := nB_ hg BKr; have NBt_r := nC_ hg BKr; replace BKa := bB_ BKa hb; replace BKn := bB_ BKn hb; replace BKy := bB_ BKy hb; replace BKr := bB_ BKr hb; replace HB := hB_ (bl_4 HB GEa GEn GEy GEr) hb; clear hb hg; have hna1 := NBa_t.out; have hna2 := NBt_a.out; have hnn1 := NBn_t.out; have hnn2 := NBt_n.out; have hny1 := NBy_t.out; have hny2 := NBt_y.out; have hnr1 := NBr_t.out; have hnr2 := NBt_r.out; obtain ⟨hczt, hfzt⟩ := c1_ BKt; obtain ⟨hcza_0, hcza_1, hcza_2, hfza_0, hfza_1, hfza_2⟩ := c3_ BKa) | ((with_reducible refine gk_ 24 ?_); refine gl_ (some 18) Try.func24 #[.agg #[.slice A0_0 l0_0.length c0_0, .bool a0_1, .int .i64 a0_2], .string (nm ++ (⟨#[46, 116, 109, 112]⟩ : ByteArray))] ?_; (with_reducible refine (disk_Read.calls _ _ _ _ _ _ _ _ _ _ ?side1 ?side2 A1.out).mono ?_); (case side1 => exact Kd.C_below HR0_0.out (bl_5 HB GEa GEn GEy GEr GEt)); (case side2 => exact HC0_0.out); rintro e w9 ⟨rfl, hb⟩; refine ⟨_, rfl, ?_⟩; have Na : Aside0 (w9.heap[ga]? = some (.cells #[.slice A0_0 l0_0.length c0_0, .bool a0_1, .int .i64 a0_2] 24 (0, 0))) := ⟨blk_below (bp_1 BKa NBa_t) hb⟩; have Nn : Aside0 (w9.heap[gn]? = some (.cells #[.string nm] 9 (0, 0))) := ⟨blk_below (bp_1 BKn NBn_t) hb⟩; have Ny : Aside0 (w9.heap[gy]? = some (.cells #[.string dt] 9 (0, 0))) := ⟨blk_below (bp_1 BKy NBy_t) hb⟩; have Nr : Aside0 (w9.heap[gr]? = some (.cells #[.slice none 0 0, .bool false, .int .i64 0] 24 (0, 0))) := ⟨blk_below (bp_1 BKr NBr_t) hb⟩; have Nt : Aside0 (w9.heap[gt]? = some (.cells #[.string (nm ++ (⟨#[46, 116, 109, 112]⟩ : ByteArray))] 9 (0, 0))) := ⟨blk_below (bp_0 BKt) hb⟩; clear BKa BKn BKy BKr BKt; have BKa := Na; have BKn := Nn; have BKy := Ny; have BKr := Nr; have BKt := Nt; clear Na Nn Ny Nr Nt; replace HB := hB_ (bl_5 HB GEa GEn GEy GEr GEt) hb; clear hb; obtain ⟨hczb_0, hczb_1, hczb_2, hfzb_0, hfzb_1, hfzb_2⟩ := c3_ BKa; obtain ⟨hczt2, hfzt2⟩ := c1_ BKt) | ((with_reducible refine gd_ 38 ?_); refine slice_event_ ?hg (N := 38) ?hd (cs := #[.func (.func 69) #[] #[.pointer (some ⟨gt, 0, none⟩), .pointer (some ⟨gy, 0, none⟩)], .func (.func 71) #[] #[.pointer (some ⟨gt, 0, none⟩)], .func (.func 73) #[] #[.pointer (some ⟨gt, 0, none⟩), .pointer (some ⟨gn, 0, none⟩)]]) (t := 95) (m := 3) (c := 3) ?hr ?_; (case hd => rfl); (case hg => rfl); (case hr => first | (go_simp; done) | (go_simp; rfl)); intro gq hg w_ hbox hb; have BKq := a_ (hbox); have Nn : Aside0 (w_.heap[gn]? = some (.cells #[.string nm] 9 (0, 0))) := ⟨blk_below (bk_ BKn) hb⟩; have Ny : Aside0 (w_.heap[gy]? = some (.cells #[.string dt] 9 (0, 0))) := ⟨blk_below (bk_ BKy) hb⟩; have Nt : Aside0 (w_.heap[gt]? = some (.cells #[.string (nm ++ (⟨#[46, 116, 109, 112]⟩ : ByteArray))] 9 (0, 0))) := ⟨blk_below (bk_ BKt) hb⟩; have Nr : Aside0 (w_.heap[gr]? = some (.cells #[.slice none 0 0, .bool false, .int .i64 0] 24 (0, 0))) := ⟨blk_below (bk_ BKr) hb⟩; clear BKn BKy BKt BKr; have BKn := Nn; have BKy := Ny; have BKt := Nt; have BKr := Nr; clear Nn Ny Nt Nr;  replace HB := hB_ (bl_5 HB GEa GEn GEy GEr GEt) hb; clear hb hbox hg) | ((with_reducible refine gk_ 68 ?_); refine gl_ (some 39) Try.func68 #[.agg #[.slice A0_0 l0_0.length c0_0, .bool a0_1, .int .i64 a0_2], .slice (some ⟨gq, 0, none⟩) 3 3] ?_; (with_reducible refine (hard_all.calls _ gq gt gy gn _ _ _ _ _ _ nm dt r1 r2 r3 r4 _ ?hq ?ht ?hd ?hn ?side1 ?side2 A3.out).mono ?_); (case hq => exact bk_ BKq); (case ht => exact bk_ BKt); (case hd => exact bk_ BKy); (case hn => exact bk_ BKn); (case side1 => exact cl_ (Kd.C_below HR0_0.out HB.out)); (case side2 => exact HC0_0.out); rintro e w9 ⟨v9, rfl, ho0, hb⟩; refine ⟨_, rfl, ?_⟩; have HOz := a_ (Kd.R_lower ho0 (below_size (bl_5 HB GEa GEn GEy GEr GEt))); replace BKr := bB_ BKr hb; replace HB := hB_ (bl_5 HB GEa GEn GEy GEr GEt) hb; clear hb ho0; obtain ⟨Az, cz, ez⟩ := Kd.R_slice HOz.out; subst ez; obtain ⟨hczq_0, hczq_1, hczq_2, hfzq_0, hfzq_1, hfzq_2⟩ := c3_ BKr))
   refine bodyPost_ret (results_ct rfl _ _ gr 24 #[.slice Az r1.length cz, .bool r2, .int .i64 r3] (0, 0) _ rfl (bp_0 BKr) Try.underlying24 rfl (by kernel_rfl)) rfl ?_
   exact ⟨_, fz_, by refine rq_ ?_; exact rf1_ HOz BKr, bl_5 HB GEa GEn GEy GEr GEt⟩
  case pos =>
   replace H : ((disk_Drop.f k l0_0 a0_1 a0_2 (nm ++ (⟨#[46, 116, 109, 112]⟩ : ByteArray))).bind fun x => if x.2.2.2 = 0 then hard_all.f k (nm ++ (⟨#[46, 116, 109, 112]⟩ : ByteArray)) nm dt x.1 x.2.1 x.2.2.1 else some (x.1, x.2.1, x.2.2.1, x.2.2.2)) = some (r1, r2, r3, r4) := by rw [if_pos c4] at H; exact H
   obtain ⟨c4b0, c4b1⟩ := be_ c4
   clear c4
   obtain ⟨⟨x1, x2, x3, x4⟩, A20, H⟩ := Option.bind_eq_some_iff.mp H
   have A2 := a_ A20
   clear A20
   try dsimp only at H
   by_cases c5 : x4 = 0
   case neg =>
    obtain ⟨c5b0, c5b1⟩ := bn_ c5
    rw [if_neg c5] at H
    clear c5
    obtain ⟨rfl, rfl, rfl, rfl⟩ := so4_ H
    go_enter Try.func45, Try.ntmps45
    go_wp2_with (first | ((with_reducible refine gd_ 3 ?_); refine bz_ 3 #[.slice A0_0 l0_0.length c0_0, .bool a0_1, .int .i64 a0_2] 24 ?_; intro ga hg w_ BKa hb; have GEa := a_ (bs_0 hg HB ); replace HB := hB_ (bl_ HB) hb; clear hb hg) | ((with_reducible refine gd_ 4 ?_); refine bz_ 4 #[.string nm] 9 ?_; intro gn hg w_ BKn hb; have GEn := a_ (bs_1 hg HB GEa); have NBn_a := nC_ hg BKa; replace BKa := bB_ BKa hb; replace HB := hB_ (bl_1 HB GEa) hb; clear hb hg) | ((with_reducible refine gd_ 5 ?_); refine bz_ 5 #[.string dt] 9 ?_; intro gy hg w_ BKy hb; have GEy := a_ (bs_2 hg HB GEa GEn); have NBy_a := nC_ hg BKa; replace BKa := bB_ BKa hb; replace BKn := bB_ BKn hb; replace HB := hB_ (bl_2 HB GEa GEn) hb; clear hb hg) | ((with_reducible refine gd_ 6 ?_); refine bz_ 6 #[.slice none 0 0, .bool false, .int .i64 0] 24 ?_; intro gr hg w_ BKr hb; have GEr := a_ (bs_3 hg HB GEa GEn GEy); have NBr_a := nC_ hg BKa; replace BKa := bB_ BKa hb; replace BKn := bB_ BKn hb; replace BKy := bB_ BKy hb; replace HB := hB_ (bl_3 HB GEa GEn GEy) hb; clear hb hg; obtain ⟨hczn, hfzn⟩ := c1_ BKn) | ((with_reducible refine gd_ 8 ?_); refine bz_ 8 #[.string (⟨#[]⟩ : ByteArray)] 9 ?_; intro gt hg w_ BKt hb; have GEt := a_ (bs_4 hg HB GEa GEn GEy GEr); have NBa_t := nB_ hg BKa; have NBt_a := nC_ hg BKa; have NBn_t := nB_ hg BKn; have NBt_n := nC_ hg BKn; have NBy_t := nB_ hg BKy; have NBt_y := nC_ hg BKy; have NBr_t := nB_ hg BKr; have NBt_r := nC_ hg BKr; replace BKa := bB_ BKa hb; replace BKn := bB_ BKn hb; replace BKy := bB_ BKy hb; replace BKr := bB_ BKr hb; replace HB := hB_ (bl_4 HB GEa GEn GEy GEr) hb; clear hb hg; have hna1 := NBa_t.out; have hna2 := NBt_a.out; have hnn1 := NBn_t.out; have hnn2 := NBt_n.out; have hny1 := NBy_t.out; have hny2 := NBt_y.out; have hnr1 := NBr_t.out; have hnr2 := NBt_r.out; obtain ⟨hczt, hfzt⟩ := c1_ BKt; obtain ⟨hcza_0, hcza_1, hcza_2, hfza_0, hfza_1, hfza_2⟩ := c3_ BKa) | ((with_reducible refine gk_ 24 ?_); refine gl_ (some 18) Try.func24 #[.agg #[.slice A0_0 l0_0.length c0_0, .bool a0_1, .int .i64 a0_2], .string (nm ++ (⟨#[46, 116, 109, 112]⟩ : ByteArray))] ?_; (with_reducible refine (disk_Read.calls _ _ _ _ _ _ _ _ _ _ ?side1 ?side2 A1.out).mono ?_); (case side1 => exact Kd.C_below HR0_0.out (bl_5 HB GEa GEn GEy GEr GEt)); (case side2 => exact HC0_0.out); rintro e w9 ⟨rfl, hb⟩; refine ⟨_, rfl, ?_⟩; have Na : Aside0 (w9.heap[ga]? = some (.cells #[.slice A0_0 l0_0.length c0_0, .bool a0_1, .int .i64 a0_2] 24 (0, 0))) := ⟨blk_below (bp_1 BKa NBa_t) hb⟩; have Nn : Aside0 (w9.heap[gn]? = some (.cells #[.string nm] 9 (0, 0))) := ⟨blk_below (bp_1 BKn NBn_t) hb⟩; have Ny : Aside0 (w9.heap[gy]? = some (.cells #[.string dt] 9 (0, 0))) := ⟨blk_below (bp_1 BKy NBy_t) hb⟩; have Nr : Aside0 (w9.heap[gr]? = some (.cells #[.slice none 0 0, .bool false, .int .i64 0] 24 (0, 0))) := ⟨blk_below (bp_1 BKr NBr_t) hb⟩; have Nt : Aside0 (w9.heap[gt]? = some (.cells #[.string (nm ++ (⟨#[46, 116, 109, 112]⟩ : ByteArray))] 9 (0, 0))) := ⟨blk_below (bp_0 BKt) hb⟩; clear BKa BKn BKy BKr BKt; have BKa := Na; have BKn := Nn; have BKy := Ny; have BKr := Nr; have BKt := Nt; clear Na Nn Ny Nr Nt; replace HB := hB_ (bl_5 HB GEa GEn GEy GEr GEt) hb; clear hb; obtain ⟨hczb_0, hczb_1, hczb_2, hfzb_0, hfzb_1, hfzb_2⟩ := c3_ BKa; obtain ⟨hczt2, hfzt2⟩ := c1_ BKt) | ((with_reducible refine gk_ 67 ?_); refine gl_ (some 26) Try.func67 #[.agg #[.slice A0_0 l0_0.length c0_0, .bool a0_1, .int .i64 a0_2], .string (nm ++ (⟨#[46, 116, 109, 112]⟩ : ByteArray))] ?_; (with_reducible refine (disk_Drop.calls _ _ _ _ _ _ _ _ _ _ _ _ ?side1 ?side2 A2.out).mono ?_); (case side1 => exact cl_ (Kd.C_below HR0_0.out HB.out)); (case side2 => exact HC0_0.out); rintro e w9 ⟨v9, rfl, ho0, hb⟩; refine ⟨_, rfl, ?_⟩; have HO9 := a_ (Kd.R_lower ho0 (below_size (bl_5 HB GEa GEn GEy GEr GEt))); replace BKa := bB_ BKa hb; replace BKn := bB_ BKn hb; replace BKy := bB_ BKy hb; replace BKr := bB_ BKr hb; replace BKt := bB_ BKt hb; replace HB := hB_ (bl_5 HB GEa GEn GEy GEr GEt) hb; clear hb ho0; obtain ⟨A9, c9, e9⟩ := Kd.R_slice HO9.out; subst e9) | ((with_reducible refine gd_ 11 ?_); refine bz_ 11 #[.slice none 0 0, .bool false, .int .i64 0] 24 ?_; intro gc hg w_ BKc hb; have GEc := a_ (bs_5 hg HB GEa GEn GEy GEr GEt); have NBa_c := nB_ hg BKa; have NBc_a := nC_ hg BKa; have NBn_c := nB_ hg BKn; have NBc_n := nC_ hg BKn; have NBy_c := nB_ hg BKy; have NBc_y := nC_ hg BKy; have NBr_c := nB_ hg BKr; have NBc_r := nC_ hg BKr; have NBt_c := nB_ hg BKt; have NBc_t := nC_ hg BKt; replace BKa := bB_ BKa hb; replace BKn := bB_ BKn hb; replace BKy := bB_ BKy hb; replace BKr := bB_ BKr hb; replace BKt := bB_ BKt hb; replace HO9 := rb_ HO9 hb; replace HB := hB_ (bl_5 HB GEa GEn GEy GEr GEt) hb; clear hb hg; have hma1 := NBa_c.out; have hma2 := NBc_a.out; have hmn1 := NBn_c.out; have hmn2 := NBc_n.out; have hmy1 := NBy_c.out; have hmy2 := NBc_y.out; have hmr1 := NBr_c.out; have hmr2 := NBc_r.out; have hmt1 := NBt_c.out; have hmt2 := NBc_t.out; obtain ⟨hczc_0, hczc_1, hczc_2, hfzc_0, hfzc_1, hfzc_2⟩ := c3_ BKc; obtain ⟨hczd_0, hczd_1, hczd_2, hfzd_0, hfzd_1, hfzd_2⟩ := c3_ BKa; obtain ⟨hcze_0, hcze_1, hcze_2, hfze_0, hfze_1, hfze_2⟩ := c3_ BKr; obtain ⟨hczf, hfzf⟩ := c1_ BKt))
    refine bodyPost_ret (results_ct rfl _ _ gr 24 #[.slice A9 x1.length c9, .bool x2, .int .i64 x3] (0, 0) _ rfl (bp_1 BKr NBr_c) Try.underlying24 rfl (by kernel_rfl)) rfl ?_
    exact ⟨_, fz_, by refine rq_ ?_; exact rf2_ HO9 BKr BKc, bl_6 HB GEa GEn GEy GEr GEt GEc⟩
   case pos =>
    obtain ⟨c5b0, c5b1⟩ := be_ c5
    rw [if_pos c5] at H
    clear c5
    have A3 := a_ H
    clear H
    go_enter Try.func45, Try.ntmps45
    go_wp2_with (first | ((with_reducible refine gd_ 3 ?_); refine bz_ 3 #[.slice A0_0 l0_0.length c0_0, .bool a0_1, .int .i64 a0_2] 24 ?_; intro ga hg w_ BKa hb; have GEa := a_ (bs_0 hg HB ); replace HB := hB_ (bl_ HB) hb; clear hb hg) | ((with_reducible refine gd_ 4 ?_); refine bz_ 4 #[.string nm] 9 ?_; intro gn hg w_ BKn hb; have GEn := a_ (bs_1 hg HB GEa); have NBn_a := nC_ hg BKa; replace BKa := bB_ BKa hb; replace HB := hB_ (bl_1 HB GEa) hb; clear hb hg) | ((with_reducible refine gd_ 5 ?_); refine bz_ 5 #[.string dt] 9 ?_; intro gy hg w_ BKy hb; have GEy := a_ (bs_2 hg HB GEa GEn); have NBy_a := nC_ hg BKa; replace BKa := bB_ BKa hb; replace BKn := bB_ BKn hb; replace HB := hB_ (bl_2 HB GEa GEn) hb; clear hb hg) | ((with_reducible refine gd_ 6 ?_); refine bz_ 6 #[.slice none 0 0, .bool false, .int .i64 0] 24 ?_; intro gr hg w_ BKr hb; have GEr := a_ (bs_3 hg HB GEa GEn GEy); have NBr_a := nC_ hg BKa; replace BKa := bB_ BKa hb; replace BKn := bB_ BKn hb; replace BKy := bB_ BKy hb; replace HB := hB_ (bl_3 HB GEa GEn GEy) hb; clear hb hg; obtain ⟨hczn, hfzn⟩ := c1_ BKn) | ((with_reducible refine gd_ 8 ?_); refine bz_ 8 #[.string (⟨#[]⟩ : ByteArray)] 9 ?_; intro gt hg w_ BKt hb; have GEt := a_ (bs_4 hg HB GEa GEn GEy GEr); have NBa_t := nB_ hg BKa; have NBt_a := nC_ hg BKa; have NBn_t := nB_ hg BKn; have NBt_n := nC_ hg BKn; have NBy_t := nB_ hg BKy; have NBt_y := nC_ hg BKy; have NBr_t := nB_ hg BKr; have NBt_r := nC_ hg BKr; replace BKa := bB_ BKa hb; replace BKn := bB_ BKn hb; replace BKy := bB_ BKy hb; replace BKr := bB_ BKr hb; replace HB := hB_ (bl_4 HB GEa GEn GEy GEr) hb; clear hb hg; have hna1 := NBa_t.out; have hna2 := NBt_a.out; have hnn1 := NBn_t.out; have hnn2 := NBt_n.out; have hny1 := NBy_t.out; have hny2 := NBt_y.out; have hnr1 := NBr_t.out; have hnr2 := NBt_r.out; obtain ⟨hczt, hfzt⟩ := c1_ BKt; obtain ⟨hcza_0, hcza_1, hcza_2, hfza_0, hfza_1, hfza_2⟩ := c3_ BKa) | ((with_reducible refine gk_ 24 ?_); refine gl_ (some 18) Try.func24 #[.agg #[.slice A0_0 l0_0.length c0_0, .bool a0_1, .int .i64 a0_2], .string (nm ++ (⟨#[46, 116, 109, 112]⟩ : ByteArray))] ?_; (with_reducible refine (disk_Read.calls _ _ _ _ _ _ _ _ _ _ ?side1 ?side2 A1.out).mono ?_); (case side1 => exact Kd.C_below HR0_0.out (bl_5 HB GEa GEn GEy GEr GEt)); (case side2 => exact HC0_0.out); rintro e w9 ⟨rfl, hb⟩; refine ⟨_, rfl, ?_⟩; have Na : Aside0 (w9.heap[ga]? = some (.cells #[.slice A0_0 l0_0.length c0_0, .bool a0_1, .int .i64 a0_2] 24 (0, 0))) := ⟨blk_below (bp_1 BKa NBa_t) hb⟩; have Nn : Aside0 (w9.heap[gn]? = some (.cells #[.string nm] 9 (0, 0))) := ⟨blk_below (bp_1 BKn NBn_t) hb⟩; have Ny : Aside0 (w9.heap[gy]? = some (.cells #[.string dt] 9 (0, 0))) := ⟨blk_below (bp_1 BKy NBy_t) hb⟩; have Nr : Aside0 (w9.heap[gr]? = some (.cells #[.slice none 0 0, .bool false, .int .i64 0] 24 (0, 0))) := ⟨blk_below (bp_1 BKr NBr_t) hb⟩; have Nt : Aside0 (w9.heap[gt]? = some (.cells #[.string (nm ++ (⟨#[46, 116, 109, 112]⟩ : ByteArray))] 9 (0, 0))) := ⟨blk_below (bp_0 BKt) hb⟩; clear BKa BKn BKy BKr BKt; have BKa := Na; have BKn := Nn; have BKy := Ny; have BKr := Nr; have BKt := Nt; clear Na Nn Ny Nr Nt; replace HB := hB_ (bl_5 HB GEa GEn GEy GEr GEt) hb; clear hb; obtain ⟨hczb_0, hczb_1, hczb_2, hfzb_0, hfzb_1, hfzb_2⟩ := c3_ BKa; obtain ⟨hczt2, hfzt2⟩ := c1_ BKt) | ((with_reducible refine gk_ 67 ?_); refine gl_ (some 26) Try.func67 #[.agg #[.slice A0_0 l0_0.length c0_0, .bool a0_1, .int .i64 a0_2], .string (nm ++ (⟨#[46, 116, 109, 112]⟩ : ByteArray))] ?_; (with_reducible refine (disk_Drop.calls _ _ _ _ _ _ _ _ _ _ _ _ ?side1 ?side2 A2.out).mono ?_); (case side1 => exact cl_ (Kd.C_below HR0_0.out HB.out)); (case side2 => exact HC0_0.out); rintro e w9 ⟨v9, rfl, ho0, hb⟩; refine ⟨_, rfl, ?_⟩; have HO9 := a_ (Kd.R_lower ho0 (below_size (bl_5 HB GEa GEn GEy GEr GEt))); replace BKa := bB_ BKa hb; replace BKn := bB_ BKn hb; replace BKy := bB_ BKy hb; replace BKr := bB_ BKr hb; replace BKt := bB_ BKt hb; replace HB := hB_ (bl_5 HB GEa GEn GEy GEr GEt) hb; clear hb ho0; obtain ⟨A9, c9, e9⟩ := Kd.R_slice HO9.out; subst e9) | ((with_reducible refine gd_ 11 ?_); refine bz_ 11 #[.slice none 0 0, .bool false, .int .i64 0] 24 ?_; intro gc hg w_ BKc hb; have GEc := a_ (bs_5 hg HB GEa GEn GEy GEr GEt); have NBa_c := nB_ hg BKa; have NBc_a := nC_ hg BKa; have NBn_c := nB_ hg BKn; have NBc_n := nC_ hg BKn; have NBy_c := nB_ hg BKy; have NBc_y := nC_ hg BKy; have NBr_c := nB_ hg BKr; have NBc_r := nC_ hg BKr; have NBt_c := nB_ hg BKt; have NBc_t := nC_ hg BKt; replace BKa := bB_ BKa hb; replace BKn := bB_ BKn hb; replace BKy := bB_ BKy hb; replace BKr := bB_ BKr hb; replace BKt := bB_ BKt hb; replace HO9 := rb_ HO9 hb; replace HB := hB_ (bl_5 HB GEa GEn GEy GEr GEt) hb; clear hb hg; have hma1 := NBa_c.out; have hma2 := NBc_a.out; have hmn1 := NBn_c.out; have hmn2 := NBc_n.out; have hmy1 := NBy_c.out; have hmy2 := NBc_y.out; have hmr1 := NBr_c.out; have hmr2 := NBc_r.out; have hmt1 := NBt_c.out; have hmt2 := NBc_t.out; obtain ⟨hczc_0, hczc_1, hczc_2, hfzc_0, hfzc_1, hfzc_2⟩ := c3_ BKc; obtain ⟨hczd_0, hczd_1, hczd_2, hfzd_0, hfzd_1, hfzd_2⟩ := c3_ BKa; obtain ⟨hcze_0, hcze_1, hcze_2, hfze_0, hfze_1, hfze_2⟩ := c3_ BKr; obtain ⟨hczf, hfzf⟩ := c1_ BKt) | ((with_reducible refine gd_ 38 ?_); refine slice_event_ ?hg (N := 38) ?hd (cs := #[.func (.func 69) #[] #[.pointer (some ⟨gt, 0, none⟩), .pointer (some ⟨gy, 0, none⟩)], .func (.func 71) #[] #[.pointer (some ⟨gt, 0, none⟩)], .func (.func 73) #[] #[.pointer (some ⟨gt, 0, none⟩), .pointer (some ⟨gn, 0, none⟩)]]) (t := 95) (m := 3) (c := 3) ?hr ?_; (case hd => rfl); (case hg => rfl); (case hr => first | (go_simp; done) | (go_simp; rfl)); intro gq hg w_ hbox hb; have BKq := a_ (hbox); have Nn : Aside0 (w_.heap[gn]? = some (.cells #[.string nm] 9 (0, 0))) := ⟨blk_below (bp_2 BKn NBn_a NBn_c) hb⟩; have Ny : Aside0 (w_.heap[gy]? = some (.cells #[.string dt] 9 (0, 0))) := ⟨blk_below (bp_2 BKy NBy_a NBy_c) hb⟩; have Nt : Aside0 (w_.heap[gt]? = some (.cells #[.string (nm ++ (⟨#[46, 116, 109, 112]⟩ : ByteArray))] 9 (0, 0))) := ⟨blk_below (bp_2 BKt NBt_a NBt_c) hb⟩; have Nr : Aside0 (w_.heap[gr]? = some (.cells #[.slice none 0 0, .bool false, .int .i64 0] 24 (0, 0))) := ⟨blk_below (bp_2 BKr NBr_a NBr_c) hb⟩; clear BKn BKy BKt BKr; have BKn := Nn; have BKy := Ny; have BKt := Nt; have BKr := Nr; clear Nn Ny Nt Nr; replace HO9 := a_ (Kd.R_below (by refine rq_ ?_; exact rf2_ HO9 BKa BKc) hb); replace HB := hB_ (bl_6 HB GEa GEn GEy GEr GEt GEc) hb; clear hb hbox hg) | ((with_reducible refine gk_ 68 ?_); refine gl_ (some 39) Try.func68 #[.agg #[.slice A9 x1.length c9, .bool x2, .int .i64 x3], .slice (some ⟨gq, 0, none⟩) 3 3] ?_; (with_reducible refine (hard_all.calls _ gq gt gy gn _ _ _ _ _ _ nm dt r1 r2 r3 r4 _ ?hq ?ht ?hd ?hn ?side1 ?side2 A3.out).mono ?_); (case hq => exact bk_ BKq); (case ht => exact bk_ BKt); (case hd => exact bk_ BKy); (case hn => exact bk_ BKn); (case side1 => exact (Kd.R_reads' HO9.out).2.2); (case side2 => exact (Kd.R_reads' HO9.out).2.1); rintro e w9 ⟨v9, rfl, ho0, hb⟩; refine ⟨_, rfl, ?_⟩; have HOz := a_ (Kd.R_lower ho0 (below_size (bl_6 HB GEa GEn GEy GEr GEt GEc))); replace BKr := bB_ BKr hb; replace HB := hB_ (bl_6 HB GEa GEn GEy GEr GEt GEc) hb; clear hb ho0; obtain ⟨Az, cz, ez⟩ := Kd.R_slice HOz.out; subst ez; obtain ⟨hczq_0, hczq_1, hczq_2, hfzq_0, hfzq_1, hfzq_2⟩ := c3_ BKr))
    refine bodyPost_ret (results_ct rfl _ _ gr 24 #[.slice Az r1.length cz, .bool r2, .int .i64 r3] (0, 0) _ rfl (bp_0 BKr) Try.underlying24 rfl (by kernel_rfl)) rfl ?_
    exact ⟨_, fz_, by refine rq_ ?_; exact rf1_ HOz BKr, bl_6 HB GEa GEn GEy GEr GEt GEc⟩

def snap_Save.j0 : Nat → Int → List (S71) → Bool → Int → Int → Int → List Int → ByteArray → Option ((List (S71)) × Bool × Int × Int)
 | 0, _, _, _, _, _, _, _, _ => none
 | k + 1, x6, x329000, x329001, x329002, x330000, x330001, x330002, x330003 => if x6 = 0 then ((snap_Bytes.f k x330000 x330001 x330002 x330003).bind fun t340 => ((pack_Frame.f k t340).bind fun bt341 => ((hard_Put.f k x329000 x329001 x329002 (⟨#[115, 110, 97, 112]⟩ : ByteArray) bt341.1).bind fun bt343 => (some (bt343.1, bt343.2.1, bt343.2.2.1, bt343.2.2.2))))) else ((disk_Check.f k x329000 x329001 x329002).bind fun t349 => (if t349 = 0 then ((some (([] : List (S71)) : List (S71))).bind fun y350 => (if y350.length + x329000.length < 3518437208883 then (some ((y350 ++ x329000), x329001, x329002, x6)) else (none))) else (some (([] : List (S71)), false, 0, x6))))
def snap_Save.f (k : Nat) (l0_0 : List (S71)) (a0_1 : Bool) (a0_2 : Int) (a1_0 : Int) (a1_1 : Int) (l1_2 : List Int) (a1_3 : ByteArray) : Option ((List (S71)) × Bool × Int × Int) := (snap_Check.f k a1_0 a1_1 l1_2 a1_3).bind fun t331 => (if t331 = 0 then ((snap_Load.f k l0_0 a0_1 a0_2).bind fun bt333 => (if bt333.2.2.2.2 = 0 then (if bt333.1 > a1_0 then (snap_Save.j0 k 17 l0_0 a0_1 a0_2 a1_0 a1_1 l1_2 a1_3) else (snap_Save.j0 k bt333.2.2.2.2 l0_0 a0_1 a0_2 a1_0 a1_1 l1_2 a1_3)) else (snap_Save.j0 k bt333.2.2.2.2 l0_0 a0_1 a0_2 a1_0 a1_1 l1_2 a1_3))) else (snap_Save.j0 k t331 l0_0 a0_1 a0_2 a1_0 a1_1 l1_2 a1_3))
theorem snap_Save.mono_l : ∀ k, (∀ y0 y1 y2 y3 y4 y5 y6 y7, LeO (snap_Save.j0 k y0 y1 y2 y3 y4 y5 y6 y7) (snap_Save.j0 (k + 1) y0 y1 y2 y3 y4 y5 y6 y7))
 | 0 => fun _ _ _ _ _ _ _ _ r h => by simp [snap_Save.j0] at h
 | k + 1 => by
  have ih0 := snap_Save.mono_l k
  ·intro y0 y1 y2 y3 y4 y5 y6 y7
   unfold snap_Save.j0
   repeat' with_reducible first | apply ih0 | apply disk_Check.mono | apply hard_Put.mono | apply pack_Frame.mono | apply snap_Bytes.mono | apply snap_Check.mono | apply snap_Load.mono | apply LeO.refl | apply LeO.none | apply LeO.ite | refine LeO.bind ?_ (fun _ => ?_)
theorem snap_Save.mono : ∀ a0 a1 a2 a3 a4 a5 a6 k, LeO (snap_Save.f k a0 a1 a2 a3 a4 a5 a6) (snap_Save.f (k + 1) a0 a1 a2 a3 a4 a5 a6) := by
 intro a0 a1 a2 a3 a4 a5 a6 k
 have ih0 := snap_Save.mono_l k
 unfold snap_Save.f
 repeat' with_reducible first | apply ih0 | apply disk_Check.mono | apply hard_Put.mono | apply pack_Frame.mono | apply snap_Bytes.mono | apply snap_Check.mono | apply snap_Load.mono | apply LeO.refl | apply LeO.none | apply LeO.ite | refine LeO.bind ?_ (fun _ => ?_)
theorem snap_Save.calls (k : Nat) (A0_0 : Option Addr) (c0_0 : Nat) (l0_0 : List (S71)) (a0_1 : Bool) (a0_2 : Int) (a1_0 : Int) (a1_1 : Int) (A1_2 : Option Addr) (c1_2 : Nat) (l1_2 : List Int) (a1_3 : ByteArray) (r1 : List (S71)) (r2 : Bool) (r3 : Int) (r4 : Int) (w : World) (hr0_0 : Kd.C k71 w A0_0 l0_0.length l0_0) (hc0_0 : l0_0.length ≤ c0_0) (hr1_2 : Kd.C (Kd.int .i64) w A1_2 l1_2.length l1_2) (hc1_2 : l1_2.length ≤ c1_2) (h : snap_Save.f k l0_0 a0_1 a0_2 a1_0 a1_1 l1_2 a1_3 = some (r1, r2, r3, r4)) :
  Calls Try.prog 35 #[.agg #[.slice A0_0 l0_0.length c0_0, .bool a0_1, .int .i64 a0_2], .agg #[.int .u64 a1_0, .int .u64 a1_1, .slice A1_2 l1_2.length c1_2, .string a1_3]] w fun e w' => ∃ v0_ : Value, e = .returned (.tuple #[.agg #[v0_, .bool r2, .int .i64 r3], .int .i64 r4]) ∧ Kd.R k71 71 w' w.heap.size (fun _ => True) v0_ r1 ∧ Below w.heap.size w w' := by
 have hu_1 := Try.underlying24
 have hu_2 := Try.underlying48
 have HR_1 := a_ hr0_0
 have HC_1 := a_ hc0_0
 clear hr0_0 hc0_0
 have HR_2 := a_ hr1_2
 have HC_2 := a_ hc1_2
 clear hr1_2 hc1_2
 have HB := a_ (Below.refl w.heap.size w)
 have H := h
 unfold snap_Save.f at H
 clear h
 obtain ⟨t_1, A_2, H⟩ := ob_ H
 try dsimp only at H
 have HC_3 := a_ H
 clear H
 go_enter Try.func35, Try.ntmps35
 go_upto_if 13 with (first | ((with_reducible refine gd_ 2 ?_); refine bz_ 2 #[.slice A0_0 l0_0.length c0_0, .bool a0_1, .int .i64 a0_2] 24 ?_; intro gb_1 hg w_1 BK_1 hb; have GE_1 := a_ (bs_0 hg HB); replace HB := hB_ (bl_ HB) hb; clear hb hg) | ((with_reducible refine gd_ 3 ?_); refine bz_ 3 #[.int .u64 a1_0, .int .u64 a1_1, .slice A1_2 l1_2.length c1_2, .string a1_3] 48 ?_; intro gb_2 hg w_2 BK_2 hb; have GE_2 := a_ (bs_1 hg HB GE_1); replace HB := hB_ (bl_1 HB GE_1) hb; have NB_1 := nB_ hg BK_1; have NB_2 := nC_ hg BK_1; replace BK_1 := bB_ BK_1 hb; clear hb hg) | ((with_reducible refine gd_ 4 ?_); refine bz_ 4 #[.slice none 0 0, .bool false, .int .i64 0] 24 ?_; intro gb_3 hg w_3 BK_3 hb; have GE_3 := a_ (bs_2 hg HB GE_1 GE_2); replace HB := hB_ (bl_2 HB GE_1 GE_2) hb; have NB_3 := nB_ hg BK_1; have NB_4 := nC_ hg BK_1; replace BK_1 := bB_ BK_1 hb; have NB_5 := nB_ hg BK_2; have NB_6 := nC_ hg BK_2; replace BK_2 := bB_ BK_2 hb; clear hb hg; have := NB_2.out; have := NB_1.out; have := NB_5.out; have := NB_6.out; obtain ⟨_, _, _, _, _, _, _, _⟩ := c4_ BK_2) | ((with_reducible refine gk_ 31 ?_); refine gl_ (some 11) Try.func31 #[.agg #[.int .u64 a1_0, .int .u64 a1_1, .slice A1_2 l1_2.length c1_2, .string a1_3]] ?_; (with_reducible refine (snap_Check.calls _ _ _ _ _ _ _ _ _ ?side1 ?side2 A_2.out).mono ?_); (case side1 => exact cl_ (Kd.C_below HR_2.out HB.out)); (case side2 => exact HC_2.out); rintro e w_4 ⟨rfl, hb⟩; refine ⟨_, rfl, ?_⟩; replace BK_1 := bB_ BK_1 hb; replace BK_2 := bB_ BK_2 hb; replace BK_3 := bB_ BK_3 hb; replace HB := hB_ (bl_3 HB GE_1 GE_2 GE_3) hb; (try clear hb)))
 (try simp only [Act.put, List.setIfInBounds_toArray, List.set_cons_zero, List.set_cons_succ])
 go_cut [6] (fun v6 wc => ∃ (kq : Nat) (x6_3 : Int), v6 = .int .i64 x6_3 ∧ Aside0 (snap_Save.j0 kq x6_3 l0_0 a0_1 a0_2 a1_0 a1_1 l1_2 a1_3 = some (r1, r2, r3, r4)) ∧ Aside0 (kq ≤ k) ∧ Aside0 (wc.heap[gb_1]? = some (.cells #[(.slice A0_0 l0_0.length c0_0), .bool a0_1, .int .i64 a0_2] 24 (0, 0))) ∧ Aside0 (wc.heap[gb_2]? = some (.cells #[.int .u64 a1_0, .int .u64 a1_1, (.slice A1_2 l1_2.length c1_2), .string a1_3] 48 (0, 0))) ∧ Aside0 (wc.heap[gb_3]? = some (.cells #[(.slice none 0 0), .bool false, .int .i64 0] 24 (0, 0))) ∧ Aside0 (Below w.heap.size w wc))
 case first =>
  have H := HC_3.out
  clear HC_3
  by_cases c_1 : t_1 = 0
  rotate_left
  focus
   rw [if_neg c_1] at H
   obtain ⟨c_2, c_3⟩ := bn_ c_1
   (first | rw [c_2] | (simp only [i64_w, i32_w]; rw [c_2]) | skip)
   have H' := a_ H
   clear H
   have L0_ := trivial
  rotate_left
  focus
   rw [if_pos c_1] at H
   obtain ⟨c_2, c_3⟩ := be_ c_1
   clear c_1
   (first | rw [c_2] | (simp only [i64_w, i32_w]; rw [c_2]) | skip)
   obtain ⟨⟨t_2, t_3, t_4, t_5, t_6⟩, A_4, H⟩ := ob_ H
   try dsimp only at H
   by_cases c_4 : t_6 = 0
   rotate_left
   focus
    rw [if_neg c_4] at H
    obtain ⟨c_5, c_6⟩ := bn_ c_4
    have H' := a_ H
    clear H
    have L1_ := trivial
   rotate_left
   focus
    rw [if_pos c_4] at H
    obtain ⟨c_5, c_6⟩ := be_ c_4
    clear c_4
    by_cases c_7 : t_2 > a1_0
    focus
     rw [if_pos c_7] at H
     have c_8 : decide (a1_0 < t_2) = true := decide_eq_true c_7
     clear c_7
     have H' := a_ H
     clear H
     have L2_ := trivial
    rotate_left
    rw [if_neg c_7] at H
    have c_8 : decide (a1_0 < t_2) = false := decide_eq_false c_7
    clear c_7
    have H' := a_ H
    clear H
    have L3_ := trivial
  all_goals
   first
   | (have _ := L0_
      go_wp2
      go_meet
      case rel => exact ⟨_, (t_1), fz_, H', ⟨by first | omega | exact Nat.le_refl _⟩, ⟨bk_ BK_1⟩, ⟨bk_ BK_2⟩, ⟨bk_ BK_3⟩, ⟨bl_3 HB GE_1 GE_2 GE_3⟩⟩)
   | (have _ := L1_
      go_wp2_with (first | ((with_reducible refine gd_ 7 ?_); refine bz_ 7 #[.int .u64 0, .int .u64 0, .slice none 0 0, .string (⟨#[]⟩ : ByteArray)] 48 ?_; intro gb_4 hg w_5 BK_4 hb; have GE_4 := a_ (bs_3 hg HB GE_1 GE_2 GE_3); replace HB := hB_ (bl_3 HB GE_1 GE_2 GE_3) hb; have NB_7 := nB_ hg BK_1; have NB_8 := nC_ hg BK_1; replace BK_1 := bB_ BK_1 hb; have NB_9 := nB_ hg BK_2; have NB_10 := nC_ hg BK_2; replace BK_2 := bB_ BK_2 hb; have NB_11 := nB_ hg BK_3; have NB_12 := nC_ hg BK_3; replace BK_3 := bB_ BK_3 hb; clear hb hg; have := NB_1.out; have := NB_2.out; have := NB_3.out; have := NB_4.out; have := NB_7.out; have := NB_8.out; obtain ⟨_, _, _, _, _, _⟩ := c3_ BK_1) | ((with_reducible refine gk_ 33 ?_); refine gl_ (some 16) Try.func33 #[.agg #[.slice A0_0 l0_0.length c0_0, .bool a0_1, .int .i64 a0_2]] ?_; (with_reducible refine (snap_Load.calls _ _ _ _ _ _ _ _ _ _ _ _ ?side1 ?side2 A_4.out).mono ?_); (case side1 => exact cl_ (Kd.C_below HR_1.out HB.out)); (case side2 => exact HC_1.out); rintro e w_6 ⟨v_1, rfl, ho_1, hb⟩; refine ⟨_, rfl, ?_⟩; have HO_1 := a_ (Kd.R_lower ho_1 (below_size (bl_4 HB GE_1 GE_2 GE_3 GE_4))); replace BK_1 := bB_ BK_1 hb; replace BK_2 := bB_ BK_2 hb; replace BK_3 := bB_ BK_3 hb; replace BK_4 := bB_ BK_4 hb; replace HB := hB_ (bl_4 HB GE_1 GE_2 GE_3 GE_4) hb; (try clear hb); (try clear ho_1); have := NB_10.out; have := NB_9.out; have := NB_12.out; have := NB_11.out; obtain ⟨_, _, _, _, _, _, _, _⟩ := c4_ BK_4; obtain ⟨Ao_1, co_1, eo_1⟩ := Kd.R_slice HO_1.out; subst eo_1))
      go_meet
      case rel => exact ⟨_, (t_6), fz_, H', ⟨by first | omega | exact Nat.le_refl _⟩, ⟨by refine bq_ ?_; refine blk_far ?_ NB_7.out _; refine bq_ ?_; refine blk_far ?_ NB_7.out _; refine bq_ ?_; refine blk_far ?_ NB_7.out _; refine bq_ ?_; refine blk_far ?_ NB_7.out _; refine bq_ ?_; exact BK_1.out⟩, ⟨by refine bq_ ?_; refine blk_far ?_ NB_9.out _; refine bq_ ?_; refine blk_far ?_ NB_9.out _; refine bq_ ?_; refine blk_far ?_ NB_9.out _; refine bq_ ?_; refine blk_far ?_ NB_9.out _; refine bq_ ?_; exact BK_2.out⟩, ⟨by refine bq_ ?_; refine blk_far ?_ NB_11.out _; refine bq_ ?_; refine blk_far ?_ NB_11.out _; refine bq_ ?_; refine blk_far ?_ NB_11.out _; refine bq_ ?_; refine blk_far ?_ NB_11.out _; refine bq_ ?_; exact BK_3.out⟩, ⟨bl_4 HB GE_1 GE_2 GE_3 GE_4⟩⟩)
   | (have _ := L2_
      go_wp2_with (first | ((with_reducible refine gd_ 7 ?_); refine bz_ 7 #[.int .u64 0, .int .u64 0, .slice none 0 0, .string (⟨#[]⟩ : ByteArray)] 48 ?_; intro gb_4 hg w_5 BK_4 hb; have GE_4 := a_ (bs_3 hg HB GE_1 GE_2 GE_3); replace HB := hB_ (bl_3 HB GE_1 GE_2 GE_3) hb; have NB_7 := nB_ hg BK_1; have NB_8 := nC_ hg BK_1; replace BK_1 := bB_ BK_1 hb; have NB_9 := nB_ hg BK_2; have NB_10 := nC_ hg BK_2; replace BK_2 := bB_ BK_2 hb; have NB_11 := nB_ hg BK_3; have NB_12 := nC_ hg BK_3; replace BK_3 := bB_ BK_3 hb; clear hb hg; have := NB_1.out; have := NB_2.out; have := NB_3.out; have := NB_4.out; have := NB_7.out; have := NB_8.out; obtain ⟨_, _, _, _, _, _⟩ := c3_ BK_1) | ((with_reducible refine gk_ 33 ?_); refine gl_ (some 16) Try.func33 #[.agg #[.slice A0_0 l0_0.length c0_0, .bool a0_1, .int .i64 a0_2]] ?_; (with_reducible refine (snap_Load.calls _ _ _ _ _ _ _ _ _ _ _ _ ?side1 ?side2 A_4.out).mono ?_); (case side1 => exact cl_ (Kd.C_below HR_1.out HB.out)); (case side2 => exact HC_1.out); rintro e w_6 ⟨v_1, rfl, ho_1, hb⟩; refine ⟨_, rfl, ?_⟩; have HO_1 := a_ (Kd.R_lower ho_1 (below_size (bl_4 HB GE_1 GE_2 GE_3 GE_4))); replace BK_1 := bB_ BK_1 hb; replace BK_2 := bB_ BK_2 hb; replace BK_3 := bB_ BK_3 hb; replace BK_4 := bB_ BK_4 hb; replace HB := hB_ (bl_4 HB GE_1 GE_2 GE_3 GE_4) hb; (try clear hb); (try clear ho_1); have := NB_10.out; have := NB_9.out; have := NB_12.out; have := NB_11.out; obtain ⟨_, _, _, _, _, _, _, _⟩ := c4_ BK_4; obtain ⟨Ao_1, co_1, eo_1⟩ := Kd.R_slice HO_1.out; subst eo_1; have := NB_5.out; have := NB_6.out; obtain ⟨_, _, _, _, _, _, _, _⟩ := c4_ BK_2))
      go_meet
      case rel => exact ⟨_, (17), fz_, H', ⟨by first | omega | exact Nat.le_refl _⟩, ⟨by refine bq_ ?_; refine blk_far ?_ NB_7.out _; refine bq_ ?_; refine blk_far ?_ NB_7.out _; refine bq_ ?_; refine blk_far ?_ NB_7.out _; refine bq_ ?_; refine blk_far ?_ NB_7.out _; refine bq_ ?_; exact BK_1.out⟩, ⟨by refine bq_ ?_; refine blk_far ?_ NB_9.out _; refine bq_ ?_; refine blk_far ?_ NB_9.out _; refine bq_ ?_; refine blk_far ?_ NB_9.out _; refine bq_ ?_; refine blk_far ?_ NB_9.out _; refine bq_ ?_; exact BK_2.out⟩, ⟨by refine bq_ ?_; refine blk_far ?_ NB_11.out _; refine bq_ ?_; refine blk_far ?_ NB_11.out _; refine bq_ ?_; refine blk_far ?_ NB_11.out _; refine bq_ ?_; refine blk_far ?_ NB_11.out _; refine bq_ ?_; exact BK_3.out⟩, ⟨bl_4 HB GE_1 GE_2 GE_3 GE_4⟩⟩)
   | (have _ := L3_
      go_wp2_with (first | ((with_reducible refine gd_ 7 ?_); refine bz_ 7 #[.int .u64 0, .int .u64 0, .slice none 0 0, .string (⟨#[]⟩ : ByteArray)] 48 ?_; intro gb_4 hg w_5 BK_4 hb; have GE_4 := a_ (bs_3 hg HB GE_1 GE_2 GE_3); replace HB := hB_ (bl_3 HB GE_1 GE_2 GE_3) hb; have NB_7 := nB_ hg BK_1; have NB_8 := nC_ hg BK_1; replace BK_1 := bB_ BK_1 hb; have NB_9 := nB_ hg BK_2; have NB_10 := nC_ hg BK_2; replace BK_2 := bB_ BK_2 hb; have NB_11 := nB_ hg BK_3; have NB_12 := nC_ hg BK_3; replace BK_3 := bB_ BK_3 hb; clear hb hg; have := NB_1.out; have := NB_2.out; have := NB_3.out; have := NB_4.out; have := NB_7.out; have := NB_8.out; obtain ⟨_, _, _, _, _, _⟩ := c3_ BK_1) | ((with_reducible refine gk_ 33 ?_); refine gl_ (some 16) Try.func33 #[.agg #[.slice A0_0 l0_0.length c0_0, .bool a0_1, .int .i64 a0_2]] ?_; (with_reducible refine (snap_Load.calls _ _ _ _ _ _ _ _ _ _ _ _ ?side1 ?side2 A_4.out).mono ?_); (case side1 => exact cl_ (Kd.C_below HR_1.out HB.out)); (case side2 => exact HC_1.out); rintro e w_6 ⟨v_1, rfl, ho_1, hb⟩; refine ⟨_, rfl, ?_⟩; have HO_1 := a_ (Kd.R_lower ho_1 (below_size (bl_4 HB GE_1 GE_2 GE_3 GE_4))); replace BK_1 := bB_ BK_1 hb; replace BK_2 := bB_ BK_2 hb; replace BK_3 := bB_ BK_3 hb; replace BK_4 := bB_ BK_4 hb; replace HB := hB_ (bl_4 HB GE_1 GE_2 GE_3 GE_4) hb; (try clear hb); (try clear ho_1); have := NB_10.out; have := NB_9.out; have := NB_12.out; have := NB_11.out; obtain ⟨_, _, _, _, _, _, _, _⟩ := c4_ BK_4; obtain ⟨Ao_1, co_1, eo_1⟩ := Kd.R_slice HO_1.out; subst eo_1; have := NB_5.out; have := NB_6.out; obtain ⟨_, _, _, _, _, _, _, _⟩ := c4_ BK_2))
      go_meet
      case rel => exact ⟨_, (t_6), fz_, H', ⟨by first | omega | exact Nat.le_refl _⟩, ⟨by refine bq_ ?_; refine blk_far ?_ NB_7.out _; refine bq_ ?_; refine blk_far ?_ NB_7.out _; refine bq_ ?_; refine blk_far ?_ NB_7.out _; refine bq_ ?_; refine blk_far ?_ NB_7.out _; refine bq_ ?_; exact BK_1.out⟩, ⟨by refine bq_ ?_; refine blk_far ?_ NB_9.out _; refine bq_ ?_; refine blk_far ?_ NB_9.out _; refine bq_ ?_; refine blk_far ?_ NB_9.out _; refine bq_ ?_; refine blk_far ?_ NB_9.out _; refine bq_ ?_; exact BK_2.out⟩, ⟨by refine bq_ ?_; refine blk_far ?_ NB_11.out _; refine bq_ ?_; refine blk_far ?_ NB_11.out _; refine bq_ ?_; refine blk_far ?_ NB_11.out _; refine bq_ ?_; refine blk_far ?_ NB_11.out _; refine bq_ ?_; exact BK_3.out⟩, ⟨bl_4 HB GE_1 GE_2 GE_3 GE_4⟩⟩)
 case rest =>
  clear HC_3
  obtain ⟨kq, x_1, rfl, HA, HJ_1, BK_1, BK_2, BK_3, HB⟩ := hcut
  cases kq with
  | zero => exact absurd HA.out (by simp [snap_Save.j0])
  | succ kj3 =>
   have H := HA.out
   clear HA
   simp only [snap_Save.j0] at H
   by_cases c_2 : x_1 = 0
   ·rw [if_pos c_2] at H
    obtain ⟨c_3, c_4⟩ := be_ c_2
    clear c_2
    obtain ⟨t_2, A_4, H⟩ := ob_ H
    try dsimp only at H
    obtain ⟨⟨t_3, t_4⟩, A_6, H⟩ := ob_ H
    try dsimp only at H
    obtain ⟨⟨t_5, t_6, t_7, t_8⟩, A_8, H⟩ := ob_ H
    try dsimp only at H
    obtain ⟨rfl, rfl, rfl, rfl⟩ := so4_ H
    have := NB_2.out
    have := NB_1.out
    have := NB_5.out
    have := NB_6.out
    obtain ⟨_, _, _, _, _, _, _, _⟩ := c4_ BK_2
    go_wp2_with (first | ((with_reducible refine gk_ 51 ?_); refine gl_ (some 33) Try.func51 #[.agg #[.int .u64 a1_0, .int .u64 a1_1, .slice A1_2 l1_2.length c1_2, .string a1_3]] ?_; (with_reducible refine (snap_Bytes.calls _ _ _ _ _ _ _ _ _ ?side1 ?side2 A_4.out).mono ?_); (case side1 => exact cl_ (Kd.C_below HR_2.out HB.out)); (case side2 => exact HC_2.out); rintro e w_5 ⟨rfl, hb⟩; refine ⟨_, rfl, ?_⟩; replace BK_1 := bB_ BK_1 hb; replace BK_2 := bB_ BK_2 hb; replace BK_3 := bB_ BK_3 hb; replace HB := hB_ (bl_3 HB GE_1 GE_2 GE_3) hb; (try clear hb)) | ((with_reducible refine gk_ 59 ?_); refine gl_ (some 34) Try.func59 #[.string t_2] ?_; (with_reducible refine (pack_Frame.calls _ _ _ _ _ A_6.out).mono ?_); rintro e w_6 ⟨rfl, hb⟩; refine ⟨_, rfl, ?_⟩; replace BK_1 := bB_ BK_1 hb; replace BK_2 := bB_ BK_2 hb; replace BK_3 := bB_ BK_3 hb; replace HB := hB_ (bl_3 HB GE_1 GE_2 GE_3) hb; (try clear hb); have := NB_3.out; have := NB_4.out; obtain ⟨_, _, _, _, _, _⟩ := c3_ BK_1) | ((with_reducible refine gk_ 45 ?_); refine gl_ (some 39) Try.func45 #[.agg #[.slice A0_0 l0_0.length c0_0, .bool a0_1, .int .i64 a0_2], .string (⟨#[115, 110, 97, 112]⟩ : ByteArray), .string t_3] ?_; (with_reducible refine (hard_Put.calls _ _ _ _ _ _ _ _ _ _ _ _ _ ?side1 ?side2 A_8.out).mono ?_); (case side1 => exact cl_ (Kd.C_below HR_1.out HB.out)); (case side2 => exact HC_1.out); rintro e w_7 ⟨v_1, rfl, ho_1, hb⟩; refine ⟨_, rfl, ?_⟩; have HO_1 := a_ (Kd.R_lower ho_1 (below_size (bl_3 HB GE_1 GE_2 GE_3))); replace BK_1 := bB_ BK_1 hb; replace BK_2 := bB_ BK_2 hb; replace BK_3 := bB_ BK_3 hb; replace HB := hB_ (bl_3 HB GE_1 GE_2 GE_3) hb; (try clear hb); (try clear ho_1); obtain ⟨Ao_1, co_1, eo_1⟩ := Kd.R_slice HO_1.out; subst eo_1; obtain ⟨_, _, _, _, _, _⟩ := c3_ BK_3))
    refine bodyPost_ret (results_ct rfl _ _ gb_3 24 #[.slice Ao_1 t_5.length co_1, .bool t_6, .int .i64 t_7] (0, 0) _ rfl (bp_0 BK_3) Try.underlying24 rfl (by kernel_rfl)) rfl ?_
    exact ⟨_, fz_, by refine rq_ ?_; exact rf1_ HO_1 BK_3, bl_3 HB GE_1 GE_2 GE_3⟩
   rw [if_neg c_2] at H
   obtain ⟨c_3, c_4⟩ := bn_ c_2
   obtain ⟨t_9, A_10, H⟩ := ob_ H
   try dsimp only at H
   by_cases c_5 : t_9 = 0
   rotate_left
   ·rw [if_neg c_5] at H
    obtain ⟨c_6, c_7⟩ := bn_ c_5
    obtain ⟨rfl, rfl, rfl, rfl⟩ := so4_ H
    have := NB_1.out
    have := NB_2.out
    have := NB_3.out
    have := NB_4.out
    obtain ⟨_, _, _, _, _, _⟩ := c3_ BK_1
    go_wp2_with (first | ((with_reducible refine gk_ 37 ?_); refine gl_ (some 44) Try.func37 #[.agg #[.slice A0_0 l0_0.length c0_0, .bool a0_1, .int .i64 a0_2]] ?_; (with_reducible refine (disk_Check.calls _ _ _ _ _ _ _ _ ?side1 ?side2 A_10.out).mono ?_); (case side1 => exact cl_ (Kd.C_below HR_1.out HB.out)); (case side2 => exact HC_1.out); rintro e w_8 ⟨rfl, hb⟩; refine ⟨_, rfl, ?_⟩; replace BK_1 := bB_ BK_1 hb; replace BK_2 := bB_ BK_2 hb; replace BK_3 := bB_ BK_3 hb; replace HB := hB_ (bl_3 HB GE_1 GE_2 GE_3) hb; (try clear hb); have := NB_6.out; have := NB_5.out; obtain ⟨_, _, _, _, _, _⟩ := c3_ BK_3))
    refine bodyPost_ret (results_ct rfl _ _ gb_3 24 #[.slice none 0 0, .bool false, .int .i64 0] (0, 0) _ rfl (bp_0 BK_3) Try.underlying24 rfl (by kernel_rfl)) rfl ?_
    exact ⟨_, fz_, nl_, bl_3 HB GE_1 GE_2 GE_3⟩
   rw [if_pos c_5] at H
   obtain ⟨c_6, c_7⟩ := be_ c_5
   clear c_5
   obtain ⟨y_1, hy_1⟩ : ∃ y_ : List (S71), y_ = (([] : List (S71))) := ⟨_, rfl⟩
   replace H : (if y_1.length + l0_0.length < 3518437208883 then (some ((y_1 ++ l0_0), a0_1, a0_2, x_1)) else (none)) = some (r1, r2, r3, r4) := by first | (rw [hy_1]; with_reducible exact H) | (have H_1 := (Option.bind_some _ _).symm.trans H; rw [hy_1]; with_reducible exact H_1) | (have H_1 := (Option.bind_some _ _).symm.trans H; with_reducible exact H_1) | with_reducible exact H | (rw [hy_1]; exact H) | exact H
   have Ny_1 := a_ hy_1
   clear hy_1
   replace H := iq_ H
   obtain ⟨c_8, H⟩ := H
   have LMc_1 := a_ c_8
   clear c_8
   obtain ⟨y_2, hy_2⟩ : ∃ y_ : List (S71), y_ = (y_1 ++ l0_0) := ⟨_, rfl⟩
   replace H : (some (y_2, a0_1, a0_2, x_1)) = some (r1, r2, r3, r4) := by first | (rw [hy_2]; with_reducible exact H) | (have H_1 := (Option.bind_some _ _).symm.trans H; rw [hy_2]; with_reducible exact H_1) | (have H_1 := (Option.bind_some _ _).symm.trans H; with_reducible exact H_1) | with_reducible exact H | (rw [hy_2]; exact H) | exact H
   have Ny_2 := a_ hy_2
   clear hy_2
   obtain ⟨rfl, rfl, rfl, rfl⟩ := so4_ H
   have := NB_1.out
   have := NB_2.out
   have := NB_3.out
   have := NB_4.out
   obtain ⟨_, _, _, _, _, _⟩ := c3_ BK_1
   go_wp2_with (first | ((with_reducible refine gk_ 37 ?_); refine gl_ (some 44) Try.func37 #[.agg #[.slice A0_0 l0_0.length c0_0, .bool a0_1, .int .i64 a0_2]] ?_; (with_reducible refine (disk_Check.calls _ _ _ _ _ _ _ _ ?side1 ?side2 A_10.out).mono ?_); (case side1 => exact cl_ (Kd.C_below HR_1.out HB.out)); (case side2 => exact HC_1.out); rintro e w_9 ⟨rfl, hb⟩; refine ⟨_, rfl, ?_⟩; replace BK_1 := bB_ BK_1 hb; replace BK_2 := bB_ BK_2 hb; replace BK_3 := bB_ BK_3 hb; replace HB := hB_ (bl_3 HB GE_1 GE_2 GE_3) hb; (try clear hb)) | ((with_reducible refine gd_ 48 ?_); refine Kd.R_lit k71 _ 71 ?hg (N := 48) ?hd (xs := ([] : List (S71))) (inner := []) (ok := fun _ => True) (okp := fun _ => True) ?hr ?hp (fun _ hk => hk) trivial (Below.refl _ _) (Nat.le_refl _) (by simp) ?_; (case hd => rfl); (case hg => rfl); (case hr => first | (go_simp; done) | (go_simp; rfl)); (case hp => exact (Reps.none _ _)); intro v_2 w_10 ho_2 hb hg_ hnew_; clear hg_ hnew_; (first | rw [← Ny_1.out] at ho_2 | (simp only [Int.reduceToNat] at ho_2; rw [← Ny_1.out] at ho_2)); have HO_2 := a_ (Kd.R_lower ho_2 (below_size (bl_3 HB GE_1 GE_2 GE_3))); replace BK_1 := bB_ BK_1 hb; replace BK_2 := bB_ BK_2 hb; replace BK_3 := bB_ BK_3 hb; replace HB := hB_ (bl_3 HB GE_1 GE_2 GE_3) hb; clear hb ho_2; obtain ⟨_, _, _, _, _, _⟩ := c3_ BK_1) | ((with_reducible refine gate_builtin (b := .append) (xs := #[.tmp 48, .tmp 50]) rfl ?_); at_builtin; refine Kd.R_append_rows k71 (w0 := w) w.heap.size rfl (.tmp 48) (.tmp 50) 22 71 (.agg #[(.string ⟨#[]⟩), (.string ⟨#[]⟩), (.int .i64 0)]) 40 rfl Try.underlying22 info71 rfl (by decide) (by omega) v_2 y_1 l0_0 _ _ _ (fun _ => True) (fun _ => False) rfl rfl ?aO ?aR (fun _ _ h => h) (fun _ h => h.elim) ?aF ?aB ?aS ?aL ?_; (case aR => exact cl_ (Kd.C_below HR_1.out HB.out)); (case aB => exact (bl_3 HB GE_1 GE_2 GE_3)); (case aF => exact (fun _ _ => trivial)); (case aO => exact (by refine rq_ ?_; exact HO_2.out)); (case aS => exact (below_size (bl_3 HB GE_1 GE_2 GE_3))); (case aL => have := LMc_1.out; omega); intro v_3 w_11 ho hb hg hat; rw [← Ny_2.out] at ho; replace BK_1 := a_ (blk_grown (g := gb_1) (o := .cells #[.slice A0_0 l0_0.length c0_0, .bool a0_1, .int .i64 a0_2] 24 (0, 0)) (bk_ BK_1) hg (Kd.R_ne HO_2.out BK_1.out (by decide))); replace BK_2 := a_ (blk_grown (g := gb_2) (o := .cells #[.int .u64 a1_0, .int .u64 a1_1, .slice A1_2 l1_2.length c1_2, .string a1_3] 48 (0, 0)) (bk_ BK_2) hg (Kd.R_ne HO_2.out BK_2.out (by decide))); replace BK_3 := a_ (blk_grown (g := gb_3) (o := .cells #[.slice none 0 0, .bool false, .int .i64 0] 24 (0, 0)) (bk_ BK_3) hg (Kd.R_ne HO_2.out BK_3.out (by decide))); replace HB := a_ (hb); have HO_3 := a_ (ho); clear HO_2; clear ho hb hg hat; obtain ⟨Ao_2, co_2, eo_2⟩ := Kd.R_slice HO_3.out; subst eo_2; obtain ⟨_, _, _, _, _, _⟩ := c3_ BK_1; have := NB_6.out; have := NB_5.out; obtain ⟨_, _, _, _, _, _⟩ := c3_ BK_3))
   refine bodyPost_ret (results_ct rfl _ _ gb_3 24 #[.slice Ao_2 y_2.length co_2, .bool a0_1, .int .i64 a0_2] (0, 0) _ rfl (bp_1 BK_3 NB_4) Try.underlying24 rfl (by kernel_rfl)) rfl ?_
   exact ⟨_, fz_, by refine rq_ ?_; exact rf2_ HO_3 BK_1 BK_3, bl_3 HB GE_1 GE_2 GE_3⟩

def gafferlaw05_lives.f (k : Nat)  : Option (Bool) := (some (([1, 3] : List Int) : List Int)).bind fun y356 => ((snap_Load.f k ([] : List (S71)) false (-1)).bind fun bt360 => ((snap_Save.f k ([] : List (S71)) false (-1) 16 2 y356 (⟨#[120]⟩ : ByteArray)).bind fun bt368 => ((snap_Load.f k bt368.1 bt368.2.1 bt368.2.2.1).bind fun bt375 => ((snap_Save.f k bt368.1 bt368.2.1 bt368.2.2.1 4 0 (([1] : List Int)) (⟨#[]⟩ : ByteArray)).bind fun bt386 => ((snap_Encode.f k 16 2 y356 (⟨#[120]⟩ : ByteArray)).bind fun bt393 => (if bt360.1 = 0 then (if bt360.2.2.2.2 = 0 then (if bt368.2.2.2 = 0 then (if bt375.2.2.2.2 = 0 then ((gafferref05_Same.f k 16 2 y356 (⟨#[120]⟩ : ByteArray) bt375.1 bt375.2.1 bt375.2.2.1 bt375.2.2.2.1).bind fun t395 => (if t395 = true then (if bt386.2.2.2 = 17 then (if bt393.1.toList = ([1, 16, 1, 2, 1, 2, 1, 1, 1, 3, 1, 1, 120] : List UInt8) then (some (bt393.2 == 0)) else (some false)) else (some false)) else (some false))) else (some false)) else (some false)) else (some false)) else (some false)))))))
theorem gafferlaw05_lives.mono : ∀ k, LeO (gafferlaw05_lives.f k ) (gafferlaw05_lives.f (k + 1) ) := by
 intro  k
 unfold gafferlaw05_lives.f
 repeat' with_reducible first | apply gafferref05_Same.mono | apply snap_Encode.mono | apply snap_Load.mono | apply snap_Save.mono | apply LeO.refl | apply LeO.none | apply LeO.ite | refine LeO.bind ?_ (fun _ => ?_)
theorem gafferlaw05_lives.only (k : Nat) (r : Bool) (h : gafferlaw05_lives.f k = some r) : r = true := by
 have h1 : gafferlaw05_lives.f (k + 200) = some r := at_rounds (fun k => gafferlaw05_lives.mono k) (Nat.le_add_right _ _) h
 have h2 : gafferlaw05_lives.f (k + 200) = some true := at_rounds (g := fun k => gafferlaw05_lives.f k) (fun k => gafferlaw05_lives.mono k) (Nat.le_add_left 200 k) (show gafferlaw05_lives.f 200 = some true by decide +kernel)
 rw [h1] at h2
 injection h2
theorem gafferlaw05_lives.calls (k : Nat)  (r : Bool) (w : World) (h : gafferlaw05_lives.f k  = some r) :
  Calls Try.prog 29 #[] w fun e w' => e = .returned (.bool r) ∧ Below w.heap.size w w' := by
 have hr : r = true := gafferlaw05_lives.only k r h
 have hu_1 := Try.underlying48
 have hu_2 := Try.underlying24
 have HB := a_ (Below.refl w.heap.size w)
 have H := h
 unfold gafferlaw05_lives.f at H
 clear h
 obtain ⟨y_1, hy_1⟩ : ∃ y_ : List Int, y_ = (([1, 3] : List Int)) := ⟨_, rfl⟩
 replace H : ((snap_Load.f k ([] : List (S71)) false (-1)).bind fun bt360 => ((snap_Save.f k ([] : List (S71)) false (-1) 16 2 y_1 (⟨#[120]⟩ : ByteArray)).bind fun bt368 => ((snap_Load.f k bt368.1 bt368.2.1 bt368.2.2.1).bind fun bt375 => ((snap_Save.f k bt368.1 bt368.2.1 bt368.2.2.1 4 0 (([1] : List Int)) (⟨#[]⟩ : ByteArray)).bind fun bt386 => ((snap_Encode.f k 16 2 y_1 (⟨#[120]⟩ : ByteArray)).bind fun bt393 => (if bt360.1 = 0 then (if bt360.2.2.2.2 = 0 then (if bt368.2.2.2 = 0 then (if bt375.2.2.2.2 = 0 then ((gafferref05_Same.f k 16 2 y_1 (⟨#[120]⟩ : ByteArray) bt375.1 bt375.2.1 bt375.2.2.1 bt375.2.2.2.1).bind fun t395 => (if t395 = true then (if bt386.2.2.2 = 17 then (if bt393.1.toList = ([1, 16, 1, 2, 1, 2, 1, 1, 1, 3, 1, 1, 120] : List UInt8) then (some (bt393.2 == 0)) else (some false)) else (some false)) else (some false))) else (some false)) else (some false)) else (some false)) else (some false))))))) = some r := by first | (rw [hy_1]; with_reducible exact H) | (have H_1 := (Option.bind_some _ _).symm.trans H; rw [hy_1]; with_reducible exact H_1) | (have H_1 := (Option.bind_some _ _).symm.trans H; with_reducible exact H_1) | with_reducible exact H | (rw [hy_1]; exact H) | exact H
 have Ny_1 := a_ hy_1
 clear hy_1
 obtain ⟨⟨t_1, t_2, t_3, t_4, t_5⟩, A_2, H⟩ := ob_ H
 try dsimp only at H
 obtain ⟨⟨t_6, t_7, t_8, t_9⟩, A_4, H⟩ := ob_ H
 try dsimp only at H
 obtain ⟨⟨t_10, t_11, t_12, t_13, t_14⟩, A_6, H⟩ := ob_ H
 try dsimp only at H
 obtain ⟨y_2, hy_2⟩ : ∃ y_ : List Int, y_ = (([1] : List Int)) := ⟨_, rfl⟩
 replace H : ((snap_Save.f k t_6 t_7 t_8 4 0 y_2 (⟨#[]⟩ : ByteArray)).bind fun bt386 => ((snap_Encode.f k 16 2 y_1 (⟨#[120]⟩ : ByteArray)).bind fun bt393 => (if t_1 = 0 then (if t_5 = 0 then (if t_9 = 0 then (if t_14 = 0 then ((gafferref05_Same.f k 16 2 y_1 (⟨#[120]⟩ : ByteArray) t_10 t_11 t_12 t_13).bind fun t395 => (if t395 = true then (if bt386.2.2.2 = 17 then (if bt393.1.toList = ([1, 16, 1, 2, 1, 2, 1, 1, 1, 3, 1, 1, 120] : List UInt8) then (some (bt393.2 == 0)) else (some false)) else (some false)) else (some false))) else (some false)) else (some false)) else (some false)) else (some false)))) = some r := by first | (rw [hy_2]; with_reducible exact H) | (have H_1 := (Option.bind_some _ _).symm.trans H; rw [hy_2]; with_reducible exact H_1) | (have H_1 := (Option.bind_some _ _).symm.trans H; with_reducible exact H_1) | with_reducible exact H | (rw [hy_2]; exact H) | exact H
 have Ny_2 := a_ hy_2
 clear hy_2
 obtain ⟨⟨t_15, t_16, t_17, t_18⟩, A_8, H⟩ := ob_ H
 try dsimp only at H
 obtain ⟨⟨t_19, t_20⟩, A_10, H⟩ := ob_ H
 try dsimp only at H
 by_cases c_1 : t_1 = 0
 rotate_left
 ·rw [if_neg c_1] at H
  obtain ⟨c_2, c_3⟩ := bn_ c_1
  exact absurd (H.trans (congrArg some hr)) (by simp)
 rw [if_pos c_1] at H
 obtain ⟨c_2, c_3⟩ := be_ c_1
 clear c_1
 by_cases c_4 : t_5 = 0
 rotate_left
 ·rw [if_neg c_4] at H
  obtain ⟨c_5, c_6⟩ := bn_ c_4
  exact absurd (H.trans (congrArg some hr)) (by simp)
 rw [if_pos c_4] at H
 obtain ⟨c_5, c_6⟩ := be_ c_4
 clear c_4
 by_cases c_7 : t_9 = 0
 rotate_left
 ·rw [if_neg c_7] at H
  obtain ⟨c_8, c_9⟩ := bn_ c_7
  exact absurd (H.trans (congrArg some hr)) (by simp)
 rw [if_pos c_7] at H
 obtain ⟨c_8, c_9⟩ := be_ c_7
 clear c_7
 by_cases c_10 : t_14 = 0
 rotate_left
 ·rw [if_neg c_10] at H
  obtain ⟨c_11, c_12⟩ := bn_ c_10
  exact absurd (H.trans (congrArg some hr)) (by simp)
 rw [if_pos c_10] at H
 obtain ⟨c_11, c_12⟩ := be_ c_10
 clear c_10
 obtain ⟨t_21, A_1, H⟩ := ob_ H
 try dsimp only at H
 by_cases c_13 : t_21 = true
 rotate_left
 ·replace c_13 := Bool.eq_false_iff.mpr c_13
  subst c_13
  rw [if_neg (show ¬ (false = true) by decide)] at H
  exact absurd (H.trans (congrArg some hr)) (by simp)
 subst c_13
 rw [if_pos rfl] at H
 by_cases c_14 : t_18 = 17
 rotate_left
 ·rw [if_neg c_14] at H
  obtain ⟨c_15, c_16⟩ := bn_ c_14
  exact absurd (H.trans (congrArg some hr)) (by simp)
 rw [if_pos c_14] at H
 obtain ⟨c_15, c_16⟩ := be_ c_14
 clear c_14
 by_cases c_17 : t_19.toList = ([1, 16, 1, 2, 1, 2, 1, 1, 1, 3, 1, 1, 120] : List UInt8)
 rotate_left
 ·rw [if_neg c_17] at H
  obtain ⟨c_18, c_19⟩ := bn_ c_17
  exact absurd (H.trans (congrArg some hr)) (by simp)
 rw [if_pos c_17] at H
 obtain ⟨c_18, c_19⟩ := be_ c_17
 clear c_17
 obtain rfl := Option.some.inj H
 go_enter Try.func29, Try.ntmps29
 go_wp2_with (first | ((with_reducible refine gd_ 12 ?_); refine Kd.R_lit (Kd.int .i64) _ 3 ?hg (N := 12) ?hd (xs := ([1, 3] : List Int)) (inner := [.int .i64 1, .int .i64 3]) (ok := fun _ => True) (okp := fun _ => True) ?hr ?hp (fun _ hk => hk) trivial (Below.refl _ _) (Nat.le_refl _) (by simp) ?_; (case hd => rfl); (case hg => rfl); (case hr => first | (go_simp; done) | (go_simp; rfl)); (case hp => exact (Reps.one (show Kd.M (Kd.int .i64) _ _ _ 1 [.int .i64 1] from rfl) (Reps.one (show Kd.M (Kd.int .i64) _ _ _ 3 [.int .i64 3] from rfl) (Reps.none _ _)))); intro v_1 w_1 ho_1 hb hg_ hnew_; clear hg_ hnew_; (first | rw [← Ny_1.out] at ho_1 | (simp only [Int.reduceToNat] at ho_1; rw [← Ny_1.out] at ho_1)); have HO_1 := a_ (Kd.R_lower ho_1 (below_size (bl_ HB))); replace HB := hB_ (bl_ HB) hb; clear hb ho_1; obtain ⟨Ao_1, co_1, eo_1⟩ := Kd.R_slice HO_1.out; subst eo_1) | ((with_reducible refine gd_ 1 ?_); refine bz_ 1 #[.int .u64 0, .int .u64 0, .slice none 0 0, .string (⟨#[]⟩ : ByteArray)] 48 ?_; intro gb_1 hg w_2 BK_1 hb; replace HO_1 := rb_ HO_1 hb; have GE_1 := a_ (bs_0 hg HB); replace HB := hB_ (bl_ HB) hb; clear hb hg; obtain ⟨_, _, _, _, _, _, _, _⟩ := c4_ BK_1) | ((with_reducible refine gk_ 33 ?_); refine gl_ (some 16) Try.func33 #[.agg #[.slice none 0 0, .bool false, .int .i64 (-1)]] ?_; (refine (snap_Load.calls _ _ _ _ _ _ _ _ _ _ _ _ ?side1 ?side2 A_2.out).mono ?_); (case side1 => exact Kd.C_nil _ _); (case side2 => exact Nat.le_refl _); rintro e w_3 ⟨v_2, rfl, ho_2, hb⟩; (try clear A_2); refine ⟨_, rfl, ?_⟩; have HO_2 := a_ (Kd.R_lower (Kd.R_new' ho_2 (Kd.R_lt (by refine rq_ ?_; exact (rf1_ HO_1 BK_1)))) (below_size (bl_1 HB GE_1))); replace HO_1 := a_ (Kd.R_elder' (by refine rq_ ?_; exact (rf1_ HO_1 BK_1)) (Kd.R_base ho_2) hb); replace BK_1 := bw_0 #[.int .u64 16, .int .u64 2, .slice Ao_1 y_1.length co_1, .string (⟨#[120]⟩ : ByteArray)] BK_1 hb; replace HB := hB_ (bl_1 HB GE_1) hb; (try clear hb); (try clear ho_2)) | ((with_reducible refine gd_ 2 ?_); refine bz_ 2 #[.int .u64 0, .int .u64 0, .slice none 0 0, .string (⟨#[]⟩ : ByteArray)] 48 ?_; intro gb_2 hg w_4 BK_2 hb; replace HO_1 := rb_ HO_1 hb; replace HO_2 := rb_ HO_2 hb; have GE_2 := a_ (bs_1 hg HB GE_1); replace HB := hB_ (bl_1 HB GE_1) hb; have NB_1 := nB_ hg BK_1; have NB_2 := nC_ hg BK_1; replace BK_1 := bB_ BK_1 hb; clear hb hg; have := NB_2.out; have := NB_1.out; obtain ⟨_, _, _, _, _, _, _, _⟩ := c4_ BK_2; obtain ⟨Ao_2, co_2, eo_2⟩ := Kd.R_slice HO_2.out; subst eo_2; obtain ⟨_, _, _, _, _, _, _, _⟩ := c4_ BK_1) | ((with_reducible refine gk_ 35 ?_); refine gl_ (some 22) Try.func35 #[.agg #[.slice none 0 0, .bool false, .int .i64 (-1)], .agg #[.int .u64 16, .int .u64 2, .slice Ao_1 y_1.length co_1, .string (⟨#[120]⟩ : ByteArray)]] ?_; (refine (snap_Save.calls _ _ _ _ _ _ _ _ _ _ _ _ _ _ _ _ _ ?side1 ?side2 ?side3 ?side4 A_4.out).mono ?_); (case side1 => exact Kd.C_nil _ _); (case side2 => exact Nat.le_refl _); (case side3 => refine (Kd.R_reads' (e := 3) (base := w.heap.size) (ok := fun k_ => (True ∧ some k_ ≠ (.slice Ao_2 t_3.length co_2 : Value).ownBlock)) (n := y_1.length) (c := co_1) ?_).2.2; exact (by refine rq_ ?_; exact (rf1_ HO_1 BK_2))); (case side4 => exact (Kd.R_reads' HO_1.out).2.1); rintro e w_5 ⟨v_3, rfl, ho_2, hb⟩; (try clear A_4); refine ⟨_, rfl, ?_⟩; replace HO_1 := a_ (Kd.R_below (by refine rq_ ?_; exact (rf1_ HO_1 BK_2)) hb); replace HO_2 := a_ (Kd.R_below (by refine rq_ ?_; exact (rf1_ HO_2 BK_2)) hb); have HO_3 := a_ (Kd.R_lower ho_2 (below_size (bl_2 HB GE_1 GE_2))); replace BK_1 := bw_1 #[.int .u64 16, .int .u64 2, .slice Ao_1 y_1.length co_1, .string (⟨#[120]⟩ : ByteArray)] BK_1 NB_1 hb; replace BK_2 := bw_0 #[.int .u64 t_1, .int .u64 t_2, .slice Ao_2 t_3.length co_2, .string t_4] BK_2 hb; replace HB := hB_ (bl_2 HB GE_1 GE_2) hb; (try clear hb); (try clear ho_2)) | ((with_reducible refine gd_ 4 ?_); refine bz_ 4 #[.slice none 0 0, .bool false, .int .i64 0] 24 ?_; intro gb_3 hg w_6 BK_3 hb; replace HO_1 := rb_ HO_1 hb; replace HO_2 := rb_ HO_2 hb; replace HO_3 := rb_ HO_3 hb; have GE_3 := a_ (bs_2 hg HB GE_1 GE_2); replace HB := hB_ (bl_2 HB GE_1 GE_2) hb; have NB_3 := nB_ hg BK_1; have NB_4 := nC_ hg BK_1; replace BK_1 := bB_ BK_1 hb; have NB_5 := nB_ hg BK_2; have NB_6 := nC_ hg BK_2; replace BK_2 := bB_ BK_2 hb; clear hb hg; obtain ⟨Ao_3, co_3, eo_3⟩ := Kd.R_slice HO_3.out; subst eo_3; have := NB_4.out; have := NB_3.out; have := NB_6.out; have := NB_5.out; obtain ⟨_, _, _, _, _, _⟩ := c3_ BK_3) | ((with_reducible refine gk_ 33 ?_); refine gl_ (some 27) Try.func33 #[.agg #[.slice Ao_3 t_6.length co_3, .bool t_7, .int .i64 t_8]] ?_; (with_reducible refine (snap_Load.calls _ _ _ _ _ _ _ _ _ _ _ _ ?side1 ?side2 A_6.out).mono ?_); (case side1 => refine (Kd.R_reads' (e := 71) (base := w.heap.size) (ok := fun k_ => True) (n := t_6.length) (c := co_3) ?_).2.2; exact (by refine rq_ ?_; exact (rf1_ HO_3 BK_3))); (case side2 => exact (Kd.R_reads' HO_3.out).2.1); rintro e w_7 ⟨v_4, rfl, ho_2, hb⟩; refine ⟨_, rfl, ?_⟩; replace HO_3 := a_ (Kd.R_below (by refine rq_ ?_; exact (rf1_ HO_3 BK_3)) hb); have HO_4 := a_ (Kd.R_lower (Kd.R_new' (Kd.R_new' ho_2 (Kd.R_lt (by refine rq_ ?_; exact (rf1_ HO_1 BK_3)))) (Kd.R_lt (by refine rq_ ?_; exact (rf1_ HO_2 BK_3)))) (below_size (bl_3 HB GE_1 GE_2 GE_3))); replace HO_1 := a_ (Kd.R_elder' (by refine rq_ ?_; exact (rf1_ HO_1 BK_3)) (Kd.R_base ho_2) hb); replace HO_2 := a_ (Kd.R_elder' (by refine rq_ ?_; exact (rf1_ HO_2 BK_3)) (Kd.R_base ho_2) hb); replace BK_1 := bw_1 #[.int .u64 16, .int .u64 2, .slice Ao_1 y_1.length co_1, .string (⟨#[120]⟩ : ByteArray)] BK_1 NB_3 hb; replace BK_2 := bw_1 #[.int .u64 t_1, .int .u64 t_2, .slice Ao_2 t_3.length co_2, .string t_4] BK_2 NB_5 hb; replace BK_3 := bw_0 #[.slice Ao_3 t_6.length co_3, .bool t_7, .int .i64 t_8] BK_3 hb; replace HB := hB_ (bl_3 HB GE_1 GE_2 GE_3) hb; (try clear hb); (try clear ho_2)) | ((with_reducible refine gd_ 6 ?_); refine bz_ 6 #[.int .u64 0, .int .u64 0, .slice none 0 0, .string (⟨#[]⟩ : ByteArray)] 48 ?_; intro gb_4 hg w_8 BK_4 hb; replace HO_1 := rb_ HO_1 hb; replace HO_2 := rb_ HO_2 hb; replace HO_3 := rb_ HO_3 hb; replace HO_4 := rb_ HO_4 hb; have GE_4 := a_ (bs_3 hg HB GE_1 GE_2 GE_3); replace HB := hB_ (bl_3 HB GE_1 GE_2 GE_3) hb; have NB_7 := nB_ hg BK_1; have NB_8 := nC_ hg BK_1; replace BK_1 := bB_ BK_1 hb; have NB_9 := nB_ hg BK_2; have NB_10 := nC_ hg BK_2; replace BK_2 := bB_ BK_2 hb; have NB_11 := nB_ hg BK_3; have NB_12 := nC_ hg BK_3; replace BK_3 := bB_ BK_3 hb; clear hb hg; have := NB_8.out; have := NB_7.out; have := NB_10.out; have := NB_9.out; have := NB_12.out; have := NB_11.out; obtain ⟨_, _, _, _, _, _, _, _⟩ := c4_ BK_4; obtain ⟨Ao_4, co_4, eo_4⟩ := Kd.R_slice HO_4.out; subst eo_4; obtain ⟨_, _, _, _, _, _⟩ := c3_ BK_3) | ((with_reducible refine gd_ 32 ?_); refine Kd.R_lit (Kd.int .i64) _ 3 ?hg (N := 32) ?hd (xs := ([1] : List Int)) (inner := [.int .i64 1]) (ok := fun _ => True) (okp := fun _ => True) ?hr ?hp (fun _ hk => hk) trivial (Below.refl _ _) (Nat.le_refl _) (by simp) ?_; (case hd => rfl); (case hg => rfl); (case hr => first | (go_simp; done) | (go_simp; rfl)); (case hp => exact (Reps.one (show Kd.M (Kd.int .i64) _ _ _ 1 [.int .i64 1] from rfl) (Reps.none _ _))); intro v_5 w_9 ho_3 hb hg_ hnew_; clear hg_ hnew_; (first | rw [← Ny_2.out] at ho_3 | (simp only [Int.reduceToNat] at ho_3; rw [← Ny_2.out] at ho_3)); replace HO_3 := a_ (Kd.R_below (by refine rq_ ?_; exact (rf1_ HO_3 BK_4)) hb); have HO_5 := a_ (Kd.R_lower (Kd.R_new' (Kd.R_new' (Kd.R_new' ho_3 (Kd.R_lt (by refine rq_ ?_; exact (rf1_ HO_1 BK_4)))) (Kd.R_lt (by refine rq_ ?_; exact (rf1_ HO_2 BK_4)))) (Kd.R_lt (by refine rq_ ?_; exact (rf1_ HO_4 BK_4)))) (below_size (bl_4 HB GE_1 GE_2 GE_3 GE_4))); replace HO_1 := a_ (Kd.R_elder' (by refine rq_ ?_; exact (rf1_ HO_1 BK_4)) (Kd.R_base ho_3) hb); replace HO_2 := a_ (Kd.R_elder' (by refine rq_ ?_; exact (rf1_ HO_2 BK_4)) (Kd.R_base ho_3) hb); replace HO_4 := a_ (Kd.R_elder' (by refine rq_ ?_; exact (rf1_ HO_4 BK_4)) (Kd.R_base ho_3) hb); replace BK_1 := bw_1 #[.int .u64 16, .int .u64 2, .slice Ao_1 y_1.length co_1, .string (⟨#[120]⟩ : ByteArray)] BK_1 NB_7 hb; replace BK_2 := bw_1 #[.int .u64 t_1, .int .u64 t_2, .slice Ao_2 t_3.length co_2, .string t_4] BK_2 NB_9 hb; replace BK_3 := bw_1 #[.slice Ao_3 t_6.length co_3, .bool t_7, .int .i64 t_8] BK_3 NB_11 hb; replace BK_4 := bw_0 #[.int .u64 t_10, .int .u64 t_11, .slice Ao_4 t_12.length co_4, .string t_13] BK_4 hb; replace HB := hB_ (bl_4 HB GE_1 GE_2 GE_3 GE_4) hb; clear hb ho_3; obtain ⟨Ao_5, co_5, eo_5⟩ := Kd.R_slice HO_5.out; subst eo_5) | ((with_reducible refine gk_ 35 ?_); refine gl_ (some 34) Try.func35 #[.agg #[.slice Ao_3 t_6.length co_3, .bool t_7, .int .i64 t_8], .agg #[.int .u64 4, .int .u64 0, .slice Ao_5 y_2.length co_5, .string (⟨#[]⟩ : ByteArray)]] ?_; (with_reducible refine (snap_Save.calls _ _ _ _ _ _ _ _ _ _ _ _ _ _ _ _ _ ?side1 ?side2 ?side3 ?side4 A_8.out).mono ?_); (case side1 => exact cl_ ((Kd.R_reads' HO_3.out).2.2)); (case side2 => exact (Kd.R_reads' HO_3.out).2.1); (case side3 => exact cl_ ((Kd.R_reads' HO_5.out).2.2)); (case side4 => exact (Kd.R_reads' HO_5.out).2.1); rintro e w_10 ⟨v_6, rfl, ho_2, hb⟩; refine ⟨_, rfl, ?_⟩; replace HO_1 := rb_ HO_1 hb; replace HO_2 := rb_ HO_2 hb; replace HO_4 := rb_ HO_4 hb; replace HO_5 := rb_ HO_5 hb; have HO_6 := a_ (Kd.R_lower (Kd.R_new' ho_2 (Kd.R_lt (by refine rq_ ?_; exact HO_3.out))) (below_size (bl_4 HB GE_1 GE_2 GE_3 GE_4))); replace HO_3 := a_ (Kd.R_elder' (by refine rq_ ?_; exact HO_3.out) (Kd.R_base ho_2) hb); replace BK_1 := bB_ BK_1 hb; replace BK_2 := bB_ BK_2 hb; replace BK_3 := bB_ BK_3 hb; replace BK_4 := bB_ BK_4 hb; replace HB := hB_ (bl_4 HB GE_1 GE_2 GE_3 GE_4) hb; (try clear hb); (try clear ho_2)) | ((with_reducible refine gd_ 8 ?_); refine bz_ 8 #[.slice none 0 0, .bool false, .int .i64 0] 24 ?_; intro gb_5 hg w_11 BK_5 hb; replace HO_1 := rb_ HO_1 hb; replace HO_2 := rb_ HO_2 hb; replace HO_3 := rb_ HO_3 hb; replace HO_4 := rb_ HO_4 hb; replace HO_5 := rb_ HO_5 hb; replace HO_6 := rb_ HO_6 hb; have GE_5 := a_ (bs_4 hg HB GE_1 GE_2 GE_3 GE_4); replace HB := hB_ (bl_4 HB GE_1 GE_2 GE_3 GE_4) hb; have NB_13 := nB_ hg BK_1; have NB_14 := nC_ hg BK_1; replace BK_1 := bB_ BK_1 hb; have NB_15 := nB_ hg BK_2; have NB_16 := nC_ hg BK_2; replace BK_2 := bB_ BK_2 hb; have NB_17 := nB_ hg BK_3; have NB_18 := nC_ hg BK_3; replace BK_3 := bB_ BK_3 hb; have NB_19 := nB_ hg BK_4; have NB_20 := nC_ hg BK_4; replace BK_4 := bB_ BK_4 hb; clear hb hg; obtain ⟨Ao_6, co_6, eo_6⟩ := Kd.R_slice HO_6.out; subst eo_6; have := NB_14.out; have := NB_13.out; have := NB_16.out; have := NB_15.out; have := NB_18.out; have := NB_17.out; have := NB_20.out; have := NB_19.out; obtain ⟨_, _, _, _, _, _⟩ := c3_ BK_5; obtain ⟨_, _, _, _, _, _, _, _⟩ := c4_ BK_1) | ((with_reducible refine gk_ 25 ?_); refine gl_ (some 39) Try.func25 #[.agg #[.int .u64 16, .int .u64 2, .slice Ao_1 y_1.length co_1, .string (⟨#[120]⟩ : ByteArray)]] ?_; (with_reducible refine (snap_Encode.calls _ _ _ _ _ _ _ _ _ _ ?side1 ?side2 A_10.out).mono ?_); (case side1 => refine (Kd.R_reads' (e := 3) (base := w.heap.size) (ok := fun k_ => (((True ∧ some k_ ≠ (.slice Ao_2 t_3.length co_2 : Value).ownBlock) ∧ some k_ ≠ (.slice Ao_4 t_12.length co_4 : Value).ownBlock) ∧ some k_ ≠ (.slice Ao_5 y_2.length co_5 : Value).ownBlock)) (n := y_1.length) (c := co_1) ?_).2.2; exact (by refine rq_ ?_; exact (rf1_ HO_1 BK_5))); (case side2 => exact (Kd.R_reads' HO_1.out).2.1); rintro e w_12 ⟨rfl, hb⟩; refine ⟨_, rfl, ?_⟩; replace HO_1 := a_ (Kd.R_below (by refine rq_ ?_; exact (rf1_ HO_1 BK_5)) hb); replace HO_2 := a_ (Kd.R_below (by refine rq_ ?_; exact (rf1_ HO_2 BK_5)) hb); replace HO_3 := a_ (Kd.R_below (by refine rq_ ?_; exact (rf1_ HO_3 BK_5)) hb); replace HO_4 := a_ (Kd.R_below (by refine rq_ ?_; exact (rf1_ HO_4 BK_5)) hb); replace HO_5 := a_ (Kd.R_below (by refine rq_ ?_; exact (rf1_ HO_5 BK_5)) hb); replace HO_6 := a_ (Kd.R_below (by refine rq_ ?_; exact (rf1_ HO_6 BK_5)) hb); replace BK_1 := bw_1 #[.int .u64 16, .int .u64 2, .slice Ao_1 y_1.length co_1, .string (⟨#[120]⟩ : ByteArray)] BK_1 NB_13 hb; replace BK_2 := bw_1 #[.int .u64 t_1, .int .u64 t_2, .slice Ao_2 t_3.length co_2, .string t_4] BK_2 NB_15 hb; replace BK_3 := bw_1 #[.slice Ao_3 t_6.length co_3, .bool t_7, .int .i64 t_8] BK_3 NB_17 hb; replace BK_4 := bw_1 #[.int .u64 t_10, .int .u64 t_11, .slice Ao_4 t_12.length co_4, .string t_13] BK_4 NB_19 hb; replace BK_5 := bw_0 #[.slice Ao_6 t_15.length co_6, .bool t_16, .int .i64 t_17] BK_5 hb; replace HB := hB_ (bl_5 HB GE_1 GE_2 GE_3 GE_4 GE_5) hb; (try clear hb); obtain ⟨_, _, _, _, _, _, _, _⟩ := c4_ BK_2; obtain ⟨_, _, _, _, _, _, _, _⟩ := c4_ BK_1; obtain ⟨_, _, _, _, _, _, _, _⟩ := c4_ BK_4) | (go_at_call 30; (with_reducible refine (gafferref05_Same.calls _ _ _ _ _ _ _ _ _ _ _ _ _ _ _ ?side1 ?side2 ?side3 ?side4 A_1.out).mono ?_); (case side1 => exact cl_ ((Kd.R_reads' HO_1.out).2.2)); (case side2 => exact (Kd.R_reads' HO_1.out).2.1); (case side3 => exact cl_ ((Kd.R_reads' HO_4.out).2.2)); (case side4 => exact (Kd.R_reads' HO_4.out).2.1); rintro e w_13 ⟨rfl, hb⟩; replace HO_1 := rb_ HO_1 hb; replace HO_2 := rb_ HO_2 hb; replace HO_3 := rb_ HO_3 hb; replace HO_4 := rb_ HO_4 hb; replace HO_5 := rb_ HO_5 hb; replace HO_6 := rb_ HO_6 hb; replace BK_1 := bB_ BK_1 hb; replace BK_2 := bB_ BK_2 hb; replace BK_3 := bB_ BK_3 hb; replace BK_4 := bB_ BK_4 hb; replace BK_5 := bB_ BK_5 hb; replace HB := hB_ (bl_5 HB GE_1 GE_2 GE_3 GE_4 GE_5) hb; (try clear hb)))
 go_ret
 exact ⟨fz_, bl_5 HB GE_1 GE_2 GE_3 GE_4 GE_5⟩
end Go.Proofs.Ytpigjmjbfpipnaa.PF
